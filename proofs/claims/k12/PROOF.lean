import PyProof.Rows.All
import Wide.All
import OpenK.AllK
import Wide.FinOn
import HandS.ForMost
import HandS.IsInst
import HandS.Style
import KE.KeyNested
import HandS.Deep
import HandS.TupAny
import HandS.TupMul
import KE.GoesEnum
import KE.KDictDisplayH
import KE.SortData
import HandS.Conv
import HandS.Strs
import HandS.SetFor
import HandS.TupSets
import KE.GoesMore
import KE.GoesZip
import HandS.Zip
import HandS.TupLe
import HandS.List
import HandS.Iter
import HandS.FStr
import HandS.Property
import HandS.DictComp
import KE.DataMinMax
import KE.KEqDict
import HandS.ExcInit
import HandS.ExcSuper
import HandS.ExcField
import HandS.ExcIs
import KE.KExcSuper
import HandS.ExcOwn
import HandS.ExcCtx
import HandS.WordsExc
import HandS.TryMany
import KE.KExcIs
import HandS.HotCalls
import HandS.Text
import HandS.OwnEq
import HandS.Replace
import HandS.ReplaceList
import PyProof.StrReplace2
import PySem.Challenge.RW_whichstand_k12_whole_texts
set_option Elab.async false
set_option linter.all false
set_option maxRecDepth 100000
set_option maxHeartbeats 4000000
/-! The D-layer: pure data in place of addresses. -/
namespace DL
open PySem L2
/-- pure data -/
inductive D where
  | non
  | bl (b : Bool)
  | int (i : Int)
  | str (x : Str)
  | tup (xs : List D)
  | lst (xs : List D)
  | obj (c : Addr) (fs : List Str) (xs : List D)
  | dct (ks vs : List D)
mutual
/-- as a key of a dict -/
def D.key : D → NestedKey
  | .non => .none
  | .bl b => .num (if b = true then 1 else 0)
  | .int i => .num i
  | .str x => .text x
  | .tup xs => .tup (D.keys xs)
  | .lst _ => .none
  | .obj _ _ _ => .none
  | .dct _ _ => .none
def D.keys : List D → List NestedKey
  | [] => []
  | d :: ds => d.key :: D.keys ds
end
mutual
/-- a key without texts, to the depth n -/
def D.tkN : Nat → D → Bool
  | _, .non => true
  | _, .bl _ => true
  | _, .int _ => true
  | _, .str _ => false
  | 0, .tup _ => false
  | n + 1, .tup xs => D.tksN n xs
  | _, .lst _ => false
  | _, .obj _ _ _ => false
  | _, .dct _ _ => false
def D.tksN : Nat → List D → Bool
  | _, [] => true
  | n, d :: ds => D.tkN n d && D.tksN n ds
end
/-- a tuple that may be a key -/
def D.tkey : D → Bool
  | .tup xs => D.tkN 8 (.tup xs)
  | _ => false
mutual
/-- the hash of a key without texts -/
def hash0 : NestedKey → Int
  | .none => reduceHash 0xFCA86420
  | .num i => hashInt i
  | .text _ => 0
  | .tup ks => reduceHash (Builtin.Tuple.tupleHashOf (hashes0 ks))
def hashes0 : List NestedKey → List Int
  | [] => []
  | k :: ks => hash0 k :: hashes0 ks
end
def ent0 (x : NestedKey × Addr × Value) : DictEntry := ⟨hash0 x.1, .ref x.2.1, x.2.2⟩
/-- a dict whose keys are tuples: its keys, where they stand, its values -/
def DictO (a : Addr) (nk : List NestedKey) (us ws : List V) : HO := .ext fun h => (a == sysModules) = false ∧ us.length ≤ sizeLine ∧ ∃ xs : List (NestedKey × Addr × Value), xs.map (·.1) = nk ∧ nk.Nodup ∧ xs.map (fun x => V.ref x.2.1) = us ∧ Vals ws (xs.map (·.2.2)) ∧
  ∃ o es ep, h.get? a = some o ∧ o.ExactDict ∧ o.data = .dict es ep ∧ es.toList = xs.map ent0
/-- the dict at a has the keys ks at us, the values ws; it may be changed -/
def DcM (H : Hp) (a : Addr) (ks : List D) (us ws : List V) : Prop :=
  (∃ kvs : List (Key × V), H a = some (.dK kvs) ∧ us = kvs.map (fun p => kV p.1) ∧ ws = kvs.map (·.2) ∧ (kvs.map (·.1)).Nodup) ∨ (H a = some (DictO a (D.keys ks) us ws) ∧ ks.all D.tkey = true ∧ ks ≠ [])
/-- a dict of ints and texts, locked only if it is not empty -/
def RdK (H : Hp) (a : Addr) (kvs : List (Key × V)) : Prop := H a = some (.dK kvs) ∨ (kvs ≠ [] ∧ ∃ o, H a = some (.frz o (.dK kvs)))
theorem RdK.rd {H : Hp} {a : Addr} {kvs : List (Key × V)} (h : RdK H a kvs) : Rd H a (.dK kvs) := h.elim .inl fun z => .inr z.2
theorem RdK.mv {H H' : Hp} {a : Addr} {kvs : List (Key × V)} (h : RdK H a kvs) (k : ∀ o, H a = some o → H' a = some o) : RdK H' a kvs := h.elim (fun z => .inl (k _ z)) fun ⟨n, o, z⟩ => .inr ⟨n, o, k _ z⟩
/-- .. or it may be locked -/
def DcAt (H : Hp) (a : Addr) (ks : List D) (us ws : List V) : Prop :=
  (∃ kvs : List (Key × V), RdK H a kvs ∧ us = kvs.map (fun p => kV p.1) ∧ ws = kvs.map (·.2) ∧ (kvs.map (·.1)).Nodup) ∨ (Rd H a (DictO a (D.keys ks) us ws) ∧ ks.all D.tkey = true ∧ ks ≠ [])
theorem rd_mv {H H' : Hp} {a : Addr} {u : HO} (h : Rd H a u) (k : ∀ o, H a = some o → H' a = some o) : Rd H' a u := by
  rcases h with h | ⟨o, h⟩
  · exact .inl (k _ h)
  · exact .inr ⟨o, k _ h⟩
theorem DcM.at {H H' : Hp} {a : Addr} {ks : List D} {us ws : List V} (h : DcM H a ks us ws) (k : ∀ o, H a = some o → H' a = some o) : DcM H' a ks us ws := by
  rcases h with ⟨kvs, h1, h2⟩ | ⟨h1, h2⟩
  · exact .inl ⟨kvs, k _ h1, h2⟩
  · exact .inr ⟨k _ h1, h2⟩
theorem DcM.some {H : Hp} {a : Addr} {ks : List D} {us ws : List V} (h : DcM H a ks us ws) : ∃ o, H a = .some o := by
  rcases h with ⟨kvs, h1, h2⟩ | ⟨h1, h2⟩
  · exact ⟨_, h1⟩
  · exact ⟨_, h1⟩
theorem DcM.rd {H : Hp} {a : Addr} {ks : List D} {us ws : List V} (h : DcM H a ks us ws) : DcAt H a ks us ws := by
  rcases h with ⟨kvs, h1, h2⟩ | ⟨h1, h2⟩
  · exact .inl ⟨kvs, .inl h1, h2⟩
  · exact .inr ⟨.inl h1, h2⟩
theorem DcAt.at {H H' : Hp} {a : Addr} {ks : List D} {us ws : List V} (h : DcAt H a ks us ws) (k : ∀ o, H a = some o → H' a = some o) : DcAt H' a ks us ws := by
  rcases h with ⟨kvs, h1, h2⟩ | ⟨h1, h2⟩
  · exact .inl ⟨kvs, h1.mv k, h2⟩
  · exact .inr ⟨rd_mv h1 k, h2⟩
theorem DcAt.some {H : Hp} {a : Addr} {ks : List D} {us ws : List V} (h : DcAt H a ks us ws) : ∃ o, H a = .some o := by
  rcases h with ⟨kvs, h1 | ⟨_, o, h1⟩, h2⟩ | ⟨h1 | ⟨o, h1⟩, h2⟩
  · exact ⟨_, h1⟩
  · exact ⟨_, h1⟩
  · exact ⟨_, h1⟩
  · exact ⟨_, h1⟩

/-- a tuple of the written part -/
def KTup (K : PySem.W.Frag) (a : Addr) (xs : List V) : Prop :=
  ∃ (o : Obj) (its : Array Value) (n : Nat), K.lookup a = some o ∧ o.cls = .type "tuple" ∧ o.data = .seq its n ∧ its.size ≤ sizeLine ∧ Vals xs its.toList
/-- a tuple, a list to be read, outside E -/
def TE_ (K : PySem.W.Frag) (E : Addr → Prop) (H : Hp) (a : Addr) (xs : List V) : Prop := (¬ E a ∧ H a = some (.tup xs)) ∨ KTup K a xs
def LE_ (E : Addr → Prop) (H : Hp) (a : Addr) (xs : List V) : Prop := ¬ E a ∧ H a = some (.lst xs)
theorem TE_.sq {K E H a xs} (h : TE_ K E H a xs) : SqT K H a xs := h.elim (fun z => .inl (.inl z.2)) .inr
theorem LE_.sq {K E H a xs} (h : LE_ E H a xs) : SqL K H a xs := .inl (.inl h.2)

mutual
/-- v denotes d in H, reading nothing at E -/
def Dn (K : PySem.W.Frag) (E : Addr → Prop) (H : Hp) : D → V → Prop
  | .non, v => v = .non
  | .bl b, v => v = .bl b
  | .int i, v => v = .int i
  | .str x, v => v = .str x
  | .tup ds, v => ∃ a xs, v = .ref a ∧ TE_ K E H a xs ∧ DnA K E H ds xs
  | .lst ds, v => ∃ a xs, v = .ref a ∧ LE_ E H a xs ∧ DnA K E H ds xs
  | .obj c ns ds, v => ∃ a dx fs, v = .ref a ∧ ¬ E a ∧ H a = some (.ins c dx fs) ∧ fs.map (·.1) = ns ∧ DnA K E H ds (fs.map (·.2))
  | .dct ks vs, v => ∃ a us ws, v = .ref a ∧ ¬ E a ∧ DcAt H a ks us ws ∧ DnA K E H ks us ∧ DnA K E H vs ws
def DnA (K : PySem.W.Frag) (E : Addr → Prop) (H : Hp) : List D → List V → Prop
  | [], xs => xs = []
  | d :: ds, xs => ∃ x r, xs = x :: r ∧ Dn K E H d x ∧ DnA K E H ds r
end

/-- what stands outside W stays -/
def FExt (W : Addr → Prop) (H H' : Hp) : Prop := ∀ b o, H b = some o → ¬ W b → H' b = some o
theorem FExt.refl (W : Addr → Prop) (H : Hp) : FExt W H H := fun _ _ h _ => h
theorem FExt.trans {W : Addr → Prop} {H H1 H2 : Hp} (a : FExt W H H1) (b : FExt W H1 H2) : FExt W H H2 := fun c o h w => b c o (a c o h w) w
theorem FExt.weaken {W W' : Addr → Prop} {H H1 : Hp} (a : FExt W H H1) (h : ∀ b, W b → W' b) : FExt W' H H1 := fun c o q w => a c o q (fun z => w (h c z))

section
variable {K : PySem.W.Frag} {E E' : Addr → Prop} {H H' : Hp}
theorem TE_.ext {a xs} (k : FExt E H H') (h : TE_ K E H a xs) : TE_ K E H' a xs := h.elim (fun z => .inl ⟨z.1, k _ _ z.2 z.1⟩) .inr
theorem LE_.ext {a xs} (k : FExt E H H') (h : LE_ E H a xs) : LE_ E H' a xs := ⟨h.1, k _ _ h.2 h.1⟩
theorem TE_.less {a xs} (k : ∀ b, E' b → E b) (h : TE_ K E H a xs) : TE_ K E' H a xs := h.elim (fun z => .inl ⟨fun q => z.1 (k _ q), z.2⟩) .inr
theorem LE_.less {a xs} (k : ∀ b, E' b → E b) (h : LE_ E H a xs) : LE_ E' H a xs := ⟨fun q => h.1 (k _ q), h.2⟩
theorem TE_.more {a xs} (k : ∀ b, E' b → E b ∨ H b = none) (h : TE_ K E H a xs) : TE_ K E' H a xs := h.elim (fun z => .inl ⟨fun q => (k a q).elim z.1 (fun w => by have r := z.2; rw [w] at r; cases r), z.2⟩) .inr
theorem LE_.more {a xs} (k : ∀ b, E' b → E b ∨ H b = none) (z : LE_ E H a xs) : LE_ E' H a xs := ⟨fun q => (k a q).elim z.1 (fun w => by have r := z.2; rw [w] at r; cases r), z.2⟩

mutual
theorem Dn.ext (k : FExt E H H') : ∀ (d : D) (v : V), Dn K E H d v → Dn K E H' d v
  | .non, _, h => h
  | .bl _, _, h => h
  | .int _, _, h => h
  | .str _, _, h => h
  | .tup ds, _, ⟨a, xs, e, t, h⟩ => ⟨a, xs, e, t.ext k, DnA.ext k ds xs h⟩
  | .lst ds, _, ⟨a, xs, e, t, h⟩ => ⟨a, xs, e, t.ext k, DnA.ext k ds xs h⟩
  | .obj c ns ds, _, ⟨a, dx, fs, e, n, t, m, h⟩ => ⟨a, dx, fs, e, n, k a _ t n, m, DnA.ext k ds _ h⟩
  | .dct ks vs, _, ⟨a, us, ws, e, n, t, h1, h2⟩ => ⟨a, us, ws, e, n, t.at (fun o q => k a o q n), DnA.ext k ks _ h1, DnA.ext k vs _ h2⟩
theorem DnA.ext (k : FExt E H H') : ∀ (ds : List D) (xs : List V), DnA K E H ds xs → DnA K E H' ds xs
  | [], _, h => h
  | d :: ds, _, ⟨x, r, e, h1, h2⟩ => ⟨x, r, e, Dn.ext k d x h1, DnA.ext k ds r h2⟩
end
mutual
theorem Dn.less (k : ∀ b, E' b → E b) : ∀ (d : D) (v : V), Dn K E H d v → Dn K E' H d v
  | .non, _, h => h
  | .bl _, _, h => h
  | .int _, _, h => h
  | .str _, _, h => h
  | .tup ds, _, ⟨a, xs, e, t, h⟩ => ⟨a, xs, e, t.less k, DnA.less k ds xs h⟩
  | .lst ds, _, ⟨a, xs, e, t, h⟩ => ⟨a, xs, e, t.less k, DnA.less k ds xs h⟩
  | .obj c ns ds, _, ⟨a, dx, fs, e, n, t, m, h⟩ => ⟨a, dx, fs, e, fun q => n (k a q), t, m, DnA.less k ds _ h⟩
  | .dct ks vs, _, ⟨a, us, ws, e, n, t, h1, h2⟩ => ⟨a, us, ws, e, fun q => n (k a q), t, DnA.less k ks _ h1, DnA.less k vs _ h2⟩
theorem DnA.less (k : ∀ b, E' b → E b) : ∀ (ds : List D) (xs : List V), DnA K E H ds xs → DnA K E' H ds xs
  | [], _, h => h
  | d :: ds, _, ⟨x, r, e, h1, h2⟩ => ⟨x, r, e, Dn.less k d x h1, DnA.less k ds r h2⟩
end

mutual
theorem Dn.more (k : ∀ b, E' b → E b ∨ H b = none) : ∀ (d : D) (v : V), Dn K E H d v → Dn K E' H d v
  | .non, _, h => h
  | .bl _, _, h => h
  | .int _, _, h => h
  | .str _, _, h => h
  | .tup ds, _, ⟨a, xs, e, t, h⟩ => ⟨a, xs, e, t.more k, DnA.more k ds xs h⟩
  | .lst ds, _, ⟨a, xs, e, t, h⟩ => ⟨a, xs, e, t.more k, DnA.more k ds xs h⟩
  | .obj c ns ds, _, ⟨a, dx, fs, e, n, t, m, h⟩ => ⟨a, dx, fs, e, fun q => (k a q).elim n (fun w => by rw [w] at t; cases t), t, m, DnA.more k ds _ h⟩
  | .dct ks vs, _, ⟨a, us, ws, e, n, t, h1, h2⟩ => ⟨a, us, ws, e, fun q => (k a q).elim n (fun w => by obtain ⟨o, z⟩ := t.some; rw [w] at z; cases z), t, DnA.more k ks _ h1, DnA.more k vs _ h2⟩
theorem DnA.more (k : ∀ b, E' b → E b ∨ H b = none) : ∀ (ds : List D) (xs : List V), DnA K E H ds xs → DnA K E' H ds xs
  | [], _, h => h
  | d :: ds, _, ⟨x, r, e, h1, h2⟩ => ⟨x, r, e, Dn.more k d x h1, DnA.more k ds r h2⟩
end
theorem DnA.len : ∀ {ds : List D} {xs : List V}, DnA K E H ds xs → xs.length = ds.length
  | [], _, h => by rw [show _ = [] from h]; rfl
  | d :: ds, _, ⟨x, r, e, h1, h2⟩ => by rw [e, List.length_cons, List.length_cons, DnA.len h2]
theorem DnA.get : ∀ {ds : List D} {xs : List V} {i : Nat} {d : D}, DnA K E H ds xs → ds[i]? = some d → ∃ x, xs[i]? = some x ∧ Dn K E H d x
  | [], _, _, _, _, e => by simp at e
  | d :: ds, _, 0, _, ⟨x, r, e, h1, h2⟩, q => by
    simp at q; subst q; subst e
    exact ⟨x, rfl, h1⟩
  | d :: ds, _, i + 1, c, ⟨x, r, e, h1, h2⟩, q => by
    subst e
    obtain ⟨y, h3, h4⟩ := DnA.get (i := i) (d := c) h2 (by simpa using q)
    exact ⟨y, by simpa using h3, h4⟩
theorem DnA.get' : ∀ {ds : List D} {xs : List V} {i : Nat} {x : V}, DnA K E H ds xs → xs[i]? = some x → ∃ d, ds[i]? = some d ∧ Dn K E H d x := fun {ds xs i x} h e => by
  have hl := h.len
  have hi : i < xs.length := (List.getElem?_eq_some_iff.mp e).1
  have hd : ds[i]? = some (ds[i]'(by omega)) := List.getElem?_eq_getElem (by omega)
  obtain ⟨y, h1, h2⟩ := h.get hd
  rw [e] at h1; cases h1
  exact ⟨_, hd, h2⟩
theorem DnA.app : ∀ {ds es : List D} {xs ys : List V}, DnA K E H ds xs → DnA K E H es ys → DnA K E H (ds ++ es) (xs ++ ys)
  | [], _, _, _, h, q => by rw [show _ = [] from h]; exact q
  | d :: ds, _, _, _, ⟨x, r, e, h1, h2⟩, q => by subst e; exact ⟨x, _, rfl, h1, DnA.app h2 q⟩
theorem DnA.one {d : D} {x : V} (h : Dn K E H d x) : DnA K E H [d] [x] := ⟨x, [], rfl, h, rfl⟩
theorem DnA.drop : ∀ (n : Nat) {ds : List D} {xs : List V}, DnA K E H ds xs → DnA K E H (ds.drop n) (xs.drop n)
  | 0, _, _, h => h
  | n + 1, [], _, h => by rw [show _ = [] from h]; rfl
  | n + 1, d :: ds, _, ⟨x, r, e, h1, h2⟩ => by subst e; exact DnA.drop n h2
theorem DnA.take : ∀ (n : Nat) {ds : List D} {xs : List V}, DnA K E H ds xs → DnA K E H (ds.take n) (xs.take n)
  | 0, _, _, h => rfl
  | n + 1, [], _, h => by rw [show _ = [] from h]; rfl
  | n + 1, d :: ds, _, ⟨x, r, e, h1, h2⟩ => by subst e; exact ⟨x, _, rfl, h1, DnA.take n h2⟩
theorem DnA.set : ∀ {ds : List D} {xs : List V} (i : Nat) {d : D} {x : V}, DnA K E H ds xs → Dn K E H d x → DnA K E H (ds.set i d) (xs.set i x)
  | [], _, _, _, _, h, _ => by rw [show _ = [] from h]; rfl
  | d :: ds, _, 0, _, _, ⟨x, r, e, h1, h2⟩, q => by subst e; exact ⟨_, _, rfl, q, h2⟩
  | d :: ds, _, i + 1, _, _, ⟨x, r, e, h1, h2⟩, q => by subst e; exact ⟨_, _, rfl, h1, DnA.set i h2 q⟩
end
end DL

set_option Elab.async false
set_option linter.all false
set_option maxRecDepth 100000
set_option maxHeartbeats 4000000
namespace DL
open PySem L2
/-- what a def's body runs under: the written part, what its callers keep for themselves, the heap at its entry, the law's source, values held by loops -/
structure Fx where
  K : PySem.W.Frag
  B : Addr → Prop
  H0 : Hp
  src : Option (Addr × Addr)
  held : List (V × D)
def Fx.W (F : Fx) (b : Addr) : Prop := ∃ a c, F.src = some (a, c) ∧ (b = a ∨ b = c)
/-- the law's source of draws stands at a, its cells at c -/
def SrcAt (H : Hp) (a c : Addr) : Prop := a ≠ c ∧ ∃ (s k : Int) (ns : List Int), H a = some (.lst [.int s, .ref c, .int k]) ∧ H c = some (.lst (ns.map V.int)) ∧ ns.length ≤ 63
def Fx.SO (F : Fx) (H : Hp) : Prop := ∀ a c, F.src = some (a, c) → SrcAt H a c
/-- a slot: shared data that nobody changes; a list of the def's own; the source -/
inductive Sl where
  | im (d : D)
  | ml (ds : List D)
  | md (ks vs : List D)
  | src
abbrev Rho := List (Option Sl)
def Sl.own : Sl → Bool
  | .ml _ => true
  | .md _ _ => true
  | _ => false
def SlOk (F : Fx) (E : Addr → Prop) (H : Hp) (v : V) : Sl → Prop
  | .im d => Dn F.K E H d v
  | .ml ds => ∃ p xs, v = .ref p ∧ E p ∧ ¬ F.B p ∧ F.H0 p = none ∧ H p = some (.lst xs) ∧ DnA F.K E H ds xs
  | .md ks vs => ∃ p us ws, v = .ref p ∧ E p ∧ ¬ F.B p ∧ F.H0 p = none ∧ DcM H p ks us ws ∧ DnA F.K E H ks us ∧ DnA F.K E H vs ws
  | .src => ∃ a c, F.src = some (a, c) ∧ v = .ref a
structure DEnv (F : Fx) (E : Addr → Prop) (σ : St) (H : Hp) (ρ : Rho) : Prop where
  fr : FExt F.W F.H0 H
  wb : ∀ b, F.W b → F.B b
  sub : ∀ b, F.B b → E b
  live : ∀ b, E b → ∃ o, H b = some o
  so : F.SO H
  len : σ.length = ρ.length
  hl : ∀ p ∈ F.held, Dn F.K E H p.2 p.1
  sl : ∀ (i : Nat) s, ρ[i]? = some (some s) → ∃ v, σ[i]? = some (some v) ∧ SlOk F E H v s
  inj : ∀ (i j : Nat) s t v, ρ[i]? = some (some s) → ρ[j]? = some (some t) → s.own = true → t.own = true → σ[i]? = some (some v) → σ[j]? = some (some v) → i = j
/-- a step that changes the source at most -/
def XExt (F : Fx) (H H' : Hp) : Prop := FExt F.W H H' ∧ F.SO H'
section
variable {F : Fx} {E : Addr → Prop} {σ : St} {H H' H1 H2 : Hp} {ρ : Rho}
theorem XExt.refl (h : F.SO H) : XExt F H H := ⟨FExt.refl _ _, h⟩
theorem XExt.trans (a : XExt F H H1) (b : XExt F H1 H2) : XExt F H H2 := ⟨a.1.trans b.1, b.2⟩
theorem Fx.SO.live (h : F.SO H) {b : Addr} (w : F.W b) : ∃ o, H b = some o := by
  obtain ⟨a, c, e, q⟩ := w
  obtain ⟨_, s, k, ns, h1, h2, _⟩ := h a c e
  rcases q with rfl | rfl
  · exact ⟨_, h1⟩
  · exact ⟨_, h2⟩
/-- SO asks for W alone -/
theorem Fx.SO.of (h : F.SO H) (k : ∀ b o, F.W b → H b = some o → H' b = some o) : F.SO H' := fun a c e => by
  obtain ⟨n, s, kk, ns, h1, h2, hl⟩ := h a c e
  exact ⟨n, s, kk, ns, k _ _ ⟨a, c, e, .inl rfl⟩ h1, k _ _ ⟨a, c, e, .inr rfl⟩ h2, hl⟩
/-- something new is laid -/
theorem XExt.new {p : Addr} {o : HO} (h : F.SO H) (hp : H p = none) : XExt F H (upd H p o) := by
  have k : ∀ b u, H b = some u → upd H p o b = some u := fun b u q => by rw [upd_ne (ne_of_none q hp)]; exact q
  exact ⟨fun b u q _ => k b u q, h.of fun b u _ q => k b u q⟩
theorem XExt.same (h : F.SO H) (k : Same H H') : XExt F H H' := ⟨fun b u q _ => k b u q, h.of fun b u _ q => k b u q⟩
theorem DEnv.we (e : DEnv F E σ H ρ) {b : Addr} (w : F.W b) : E b := e.sub b (e.wb b w)
theorem DEnv.fe (e : DEnv F E σ H ρ) (x : XExt F H H') : FExt E H H' := x.1.weaken fun _ w => e.we w
theorem DEnv.dn (e : DEnv F E σ H ρ) (x : XExt F H H') {d : D} {v : V} (h : Dn F.K E H d v) : Dn F.K E H' d v := Dn.ext (e.fe x) d v h
theorem DEnv.dna (e : DEnv F E σ H ρ) (x : XExt F H H') {d : List D} {v : List V} (h : DnA F.K E H d v) : DnA F.K E H' d v := DnA.ext (e.fe x) d v h
theorem DEnv.step (e : DEnv F E σ H ρ) (x : XExt F H H') : DEnv F E σ H' ρ where
  fr := e.fr.trans x.1
  wb := e.wb
  sub := e.sub
  live := fun b hb => by
    by_cases w : F.W b
    · exact x.2.live w
    · obtain ⟨o, h⟩ := e.live b hb
      exact ⟨o, x.1 b o h w⟩
  so := x.2
  len := e.len
  hl := fun p hp => e.dn x (e.hl p hp)
  sl := fun i s hs => by
    obtain ⟨v, h1, h2⟩ := e.sl i s hs
    refine ⟨v, h1, ?_⟩
    cases s with
    | im d => exact e.dn x h2
    | ml ds =>
      obtain ⟨p, xs, ev, hE, hB, h0, hp, ha⟩ := h2
      exact ⟨p, xs, ev, hE, hB, h0, x.1 p _ hp (fun w => hB (e.wb p w)), e.dna x ha⟩
    | md ks vs =>
      obtain ⟨p, us, ws, ev, hE, hB, h0, hp, ha, hb⟩ := h2
      exact ⟨p, us, ws, ev, hE, hB, h0, hp.at (fun o q => x.1 p o q (fun w => hB (e.wb p w))), e.dna x ha, e.dna x hb⟩
    | src => exact h2
  inj := e.inj
/-- a free place is outside E -/
theorem DEnv.nE (e : DEnv F E σ H ρ) {p : Addr} (hp : H p = none) : ¬ E p := fun h => by
  obtain ⟨o, q⟩ := e.live p h
  rw [hp] at q; cases q
end

/-! ### readings over pure states -/
abbrev RE := Rho → (D → Prop) → Prop
abbrev RT := Rho → (Bool → Prop) → Prop
abbrev RA := Rho → (List Sl → Prop) → Prop
structure DEnds where
  nx : Rho → Prop
  rt : D → Prop
  bk : Rho → Prop
  ct : Rho → Prop
abbrev RS := DEnds → Rho → Prop

/-- an arg as it is handed on -/
def ArgOk (F : Fx) (E : Addr → Prop) (H : Hp) (v : V) : Sl → Prop
  | .im d => Dn F.K E H d v
  | .ml _ => False
  | .md _ _ => False
  | .src => ∃ a c, F.src = some (a, c) ∧ v = .ref a
def ArgsOk (F : Fx) (E : Addr → Prop) (H : Hp) : List V → List Sl → Prop
  | [], [] => True
  | v :: vs, s :: ss => ArgOk F E H v s ∧ ArgsOk F E H vs ss
  | _, _ => False
/-- as Dn, but the top list may be one of the def's own -/
def Top (F : Fx) (E : Addr → Prop) (H : Hp) : D → V → Prop
  | .lst ds, v => ∃ a xs, v = .ref a ∧ LE_ F.W H a xs ∧ DnA F.K E H ds xs
  | .dct ks vs, v => ∃ a us ws, v = .ref a ∧ ¬ F.W a ∧ DcAt H a ks us ws ∧ DnA F.K E H ks us ∧ DnA F.K E H vs ws
  | d, v => Dn F.K E H d v
theorem Top.of {F : Fx} {E : Addr → Prop} {H : Hp} {d : D} {v : V} (w : ∀ b, F.W b → E b) (h : Dn F.K E H d v) : Top F E H d v := by
  cases d with
  | lst ds => obtain ⟨a, xs, e, l, q⟩ := h; exact ⟨a, xs, e, l.less w, q⟩
  | dct ks vs => obtain ⟨a, us, ws, e, n, q⟩ := h; exact ⟨a, us, ws, e, fun z => n (w a z), q⟩
  | _ => exact h

def liftE (F : Fx) (t : RE) : TE := fun σ H Q => ∃ E ρ q, DEnv F E σ H ρ ∧ t ρ q ∧ ∀ d, q d → ∀ v H', XExt F H H' → Dn F.K E H' d v → Q v H'
def liftB (F : Fx) (t : RE) : TE := fun σ H Q => ∃ E ρ q, DEnv F E σ H ρ ∧ t ρ q ∧ ∀ d, q d → ∀ v H', XExt F H H' → Top F E H' d v → Q v H'
def liftT (F : Fx) (t : RT) : TT := fun σ H Q => ∃ E ρ q, DEnv F E σ H ρ ∧ t ρ q ∧ ∀ b, q b → ∀ H', XExt F H H' → Q b H'
def liftA (F : Fx) (t : RA) : TA := fun σ H Q => ∃ E ρ q, DEnv F E σ H ρ ∧ t ρ q ∧ ∀ ss, q ss → ∀ vs H', XExt F H H' → ArgsOk F E H' vs ss → Q vs H'
/-- the ends Z of a pure reading serve the ends D -/
structure Serves (F : Fx) (Z : DEnds) (D_ : Ends) : Prop where
  nx : ∀ ρ, Z.nx ρ → ∀ E σ H, DEnv F E σ H ρ → D_.nx σ H
  rt : ∀ d, Z.rt d → ∀ v H', XExt F F.H0 H' → Dn F.K F.B H' d v → D_.rt v H'
  bk : ∀ ρ, Z.bk ρ → ∀ E σ H, DEnv F E σ H ρ → D_.bk σ H
  ct : ∀ ρ, Z.ct ρ → ∀ E σ H, DEnv F E σ H ρ → D_.ct σ H
def liftS (F : Fx) (t : RS) : TS := fun D_ σ H => ∃ E ρ Z, DEnv F E σ H ρ ∧ t Z ρ ∧ Serves F Z D_

/-! ### the judgements -/
def ED (X : Cx) (e : Expr) (t : RE) : Prop := ∀ F : Fx, F.K = X.K → PE X e (liftE F t)
def BD (X : Cx) (e : Expr) (t : RE) : Prop := ∀ F : Fx, F.K = X.K → PE X e (liftB F t)
def TD (X : Cx) (e : Expr) (t : RT) : Prop := ∀ F : Fx, F.K = X.K → PT X e (liftT F t)
def WD (X : Cx) (e : Expr) (t : RT) : Prop := ∀ F : Fx, F.K = X.K → PW X e (liftT F t)
def AD (X : Cx) (es : List Expr) (t : RA) : Prop := ∀ F : Fx, F.K = X.K → PA X es (liftA F t)
def SD (X : Cx) (s : Stmt) (t : RS) : Prop := ∀ F : Fx, F.K = X.K → PS X s (liftS F t)
def SsD (X : Cx) (s : List Stmt) (t : RS) : Prop := ∀ F : Fx, F.K = X.K → PSs X s (liftS F t)

theorem _root_.L2.PE.imp {X : Cx} {e : Expr} {t u : TE} (h : PE X e t) (k : ∀ σ H Q, u σ H Q → t σ H Q) : PE X e u := ⟨fun pins s σ H Q I q => h.run pins s σ H Q I (k _ _ _ q)⟩
theorem _root_.L2.PT.imp {X : Cx} {e : Expr} {t u : TT} (h : PT X e t) (k : ∀ σ H Q, u σ H Q → t σ H Q) : PT X e u := ⟨fun pins s σ H Q I q => h.run pins s σ H Q I (k _ _ _ q)⟩
theorem _root_.L2.PW.imp {X : Cx} {e : Expr} {t u : TT} (h : PW X e t) (k : ∀ σ H Q, u σ H Q → t σ H Q) : PW X e u := ⟨fun wh pins s σ H Q I q => h.run wh pins s σ H Q I (k _ _ _ q)⟩
theorem _root_.L2.PA.imp {X : Cx} {e : List Expr} {t u : TA} (h : PA X e t) (k : ∀ σ H Q, u σ H Q → t σ H Q) : PA X e u := ⟨fun pos pins s σ H Q I q => h.run pos pins s σ H Q I (k _ _ _ q)⟩
theorem _root_.L2.PS.imp {X : Cx} {e : Stmt} {t u : TS} (h : PS X e t) (k : ∀ D σ H, u D σ H → t D σ H) : PS X e u := ⟨fun pins s σ H D I q => h.run pins s σ H D I (k _ _ _ q)⟩
theorem _root_.L2.PSs.imp {X : Cx} {e : List Stmt} {t u : TS} (h : PSs X e t) (k : ∀ D σ H, u D σ H → t D σ H) : PSs X e u := ⟨fun pins s σ H D I q => h.run pins s σ H D I (k _ _ _ q)⟩

/-! ### names, constants -/
section
variable {X : Cx} {e a b c : Expr} {ta tb tc : RE} {pos : Pos}
def dvar (i : Nat) : RE := fun ρ q => match ρ[i]? with
  | some (some (.im d)) => q d
  | _ => False
/-- a name, its list perhaps the def's own -/
def bvar (i : Nat) : RE := fun ρ q => match ρ[i]? with
  | some (some (.im d)) => q d
  | some (some (.ml ds)) => q (.lst ds)
  | some (some (.md ks vs)) => q (.dct ks vs)
  | _ => False
def dcon (d : D) : RE := fun _ q => q d
theorem e_var {i : Nat} (h : PE X e (tVar i)) : ED X e (dvar i) := fun F _ => h.imp fun σ H Q => by
  rintro ⟨E, ρ, q, env, hq, k⟩
  unfold dvar at hq
  split at hq
  · rename_i d he
    obtain ⟨v, h1, h2⟩ := env.sl i _ he
    exact ⟨v, h1, k _ hq v H (XExt.refl env.so) h2⟩
  · exact hq.elim
theorem b_var {i : Nat} (h : PE X e (tVar i)) : BD X e (bvar i) := fun F _ => h.imp fun σ H Q => by
  rintro ⟨E, ρ, q, env, hq, k⟩
  unfold bvar at hq
  split at hq
  · rename_i d he
    obtain ⟨v, h1, h2⟩ := env.sl i _ he
    exact ⟨v, h1, k _ hq v H (XExt.refl env.so) (Top.of (fun _ => env.we) h2)⟩
  · rename_i ds he
    obtain ⟨v, h1, p, xs, ev, hE, hB, h0, hp, ha⟩ := env.sl i _ he
    exact ⟨v, h1, k _ hq v H (XExt.refl env.so) ⟨p, xs, ev, ⟨fun w => hB (env.wb p w), hp⟩, ha⟩⟩
  · rename_i ks vs he
    obtain ⟨v, h1, p, us, ws, ev, hE, hB, h0, hp, ha⟩ := env.sl i _ he
    exact ⟨v, h1, k _ hq v H (XExt.refl env.so) ⟨p, us, ws, ev, fun w => hB (env.wb p w), hp.rd, ha⟩⟩
  · exact hq.elim
theorem e_con {v : V} {d : D} (h : PE X e (tC v)) (hd : ∀ (K : PySem.W.Frag) E H, K = X.K → Dn K E H d v) : ED X e (dcon d) := fun F hF => h.imp fun σ H Q => by
  rintro ⟨E, ρ, q, env, hq, k⟩
  exact k _ hq v H (XExt.refl env.so) (hd _ _ _ hF)
theorem e_int {i j} : ED X (.Constant (.int i) j pos) (dcon (.int i)) := e_con pe_int fun _ _ _ _ => rfl
theorem e_bl {b j} : ED X (.Constant (.bool b) j pos) (dcon (.bl b)) := e_con pe_bl fun _ _ _ _ => rfl
theorem e_non {j} : ED X (.Constant .none j pos) (dcon .non) := e_con pe_non fun _ _ _ _ => rfl
theorem e_str {x j} : ED X (.Constant (.str x) j pos) (dcon (.str x)) := e_con pe_str fun _ _ _ _ => rfl
theorem e_b (h : ED X e ta) : BD X e ta := fun F hF => (h F hF).imp fun σ H Q => by
  rintro ⟨E, ρ, q, env, hq, k⟩
  exact ⟨E, ρ, q, env, hq, fun d hd v H' x hv => k d hd v H' x (Top.of (fun _ => env.we) hv)⟩

/-! ### two places -/
/-- an operation on two data: what it asks, what it gives -/
abbrev R2D := D → D → (D → Prop) → Prop
def dop (r : R2D) (ta tb : RE) : RE := fun ρ q => ta ρ fun x => tb ρ fun y => r x y q
end
/-- where a value operation stands: a heap with what is shut -/
structure At (F : Fx) (E : Addr → Prop) (H : Hp) : Prop where
  so : F.SO H
  we : ∀ b, F.W b → E b
  live : ∀ b, E b → ∃ o, H b = some o
theorem DEnv.at_ {F : Fx} {E : Addr → Prop} {σ : St} {H : Hp} {ρ : Rho} (e : DEnv F E σ H ρ) : At F E H := ⟨e.so, fun _ => e.we, e.live⟩
theorem At.nE {F : Fx} {E : Addr → Prop} {H : Hp} (e : At F E H) {p : Addr} (hp : H p = none) : ¬ E p := fun h => by
  obtain ⟨o, q⟩ := e.live p h
  rw [hp] at q; cases q
theorem At.dn {F : Fx} {E : Addr → Prop} {H H' : Hp} (e : At F E H) (x : XExt F H H') {d : D} {v : V} (h : Dn F.K E H d v) : Dn F.K E H' d v := Dn.ext (x.1.weaken e.we) d v h
theorem At.dna {F : Fx} {E : Addr → Prop} {H H' : Hp} (e : At F E H) (x : XExt F H H') {d : List D} {v : List V} (h : DnA F.K E H d v) : DnA F.K E H' d v := DnA.ext (x.1.weaken e.we) d v h
theorem Top.ext {F : Fx} {E : Addr → Prop} {H H' : Hp} (e : At F E H) (x : XExt F H H') {d : D} {v : V} (h : Top F E H d v) : Top F E H' d v := by
  cases d with
  | lst ds => obtain ⟨a, xs, ev, l, q⟩ := h; exact ⟨a, xs, ev, l.ext x.1, e.dna x q⟩
  | dct ks vs => obtain ⟨a, us, ws, ev, n, t, q1, q2⟩ := h; exact ⟨a, us, ws, ev, n, t.at (fun o z => x.1 a o z n), e.dna x q1, e.dna x q2⟩
  | _ => exact e.dn x h
/-- a new tuple, a new list -/
theorem At.tup {F : Fx} {E : Addr → Prop} {H : Hp} (e : At F E H) {ds : List D} {xs : List V} {p : Addr} (hp : H p = none) (h : DnA F.K E H ds xs) : Dn F.K E (upd H p (.tup xs)) (.tup ds) (.ref p) :=
  ⟨p, xs, rfl, .inl ⟨e.nE hp, upd_same⟩, e.dna (XExt.new e.so hp) h⟩
theorem At.lst {F : Fx} {E : Addr → Prop} {H : Hp} (e : At F E H) {ds : List D} {xs : List V} {p : Addr} (hp : H p = none) (h : DnA F.K E H ds xs) : Dn F.K E (upd H p (.lst xs)) (.lst ds) (.ref p) :=
  ⟨p, xs, rfl, ⟨e.nE hp, upd_same⟩, e.dna (XExt.new e.so hp) h⟩
/-- r tells what f does on values -/
def OpD (X : Cx) (f : Value → Value → Sem Value) (r : R2D) : Prop := ∃ r' : R2, OpR X f r' ∧ ∀ (F : Fx) (E : Addr → Prop) (H : Hp) (x y : D) (u v : V) (q : D → Prop) (Q : VK), F.K = X.K → At F E H → Top F E H x u → Top F E H y v → r x y q →
  (∀ d, q d → ∀ w H', XExt F H H' → Dn F.K E H' d w → Q w H') → r' u v H Q
section
variable {X : Cx} {e a b c : Expr} {ta tb tc : RE} {pos : Pos}
theorem two_ {F : Fx} {r : R2D} {r' : R2} (hF : F.K = X.K) (hr : ∀ (F : Fx) (E : Addr → Prop) (H : Hp) (x y : D) (u v : V) (q : D → Prop) (Q : VK), F.K = X.K → At F E H → Top F E H x u → Top F E H y v → r x y q →
    (∀ d, q d → ∀ w H', XExt F H H' → Dn F.K E H' d w → Q w H') → r' u v H Q) (σ : St) (H : Hp) (Q : VK) (h : liftE F (dop r ta tb) σ H Q) : tOp r' (liftB F ta) (liftB F tb) σ H Q := by
  obtain ⟨E, ρ, q, env, hq, k⟩ := h
  refine ⟨E, ρ, _, env, hq, fun x hx u H1 x1 hu => ?_⟩
  refine ⟨E, ρ, _, env.step x1, hx, fun y hy v H2 x2 hv => ?_⟩
  have a2 := (env.step x1).step x2
  exact hr F E H2 x y u v q Q hF a2.at_ (hu.ext (env.step x1).at_ x2) hv hy fun d hd w H' x3 hw => k d hd w H' (x1.trans (x2.trans x3)) hw
theorem e_op {op : Operator} {r : R2D} (ho : OpD X (binaryOp op) r) (ha : BD X a ta) (hb : BD X b tb) : ED X (.BinOp a op b pos) (dop r ta tb) := fun F hF => by
  obtain ⟨r', h1, h2⟩ := ho
  exact (pe_op h1 (ha F hF) (hb F hF)).imp (two_ hF h2)
theorem e_cmp {op : CmpOp} {r : R2D} (ho : OpD X (compareOp op) r) (ha : BD X a ta) (hb : BD X b tb) (hm : behindInMarks op b = false) : ED X (.Compare a [op] [b] pos) (dop r ta tb) := fun F hF => by
  obtain ⟨r', h1, h2⟩ := ho
  exact (pe_cmpR h1 (ha F hF) (hb F hF) hm).imp (two_ hF h2)
/-- a bool as a test -/
def dtest (t : RE) : RT := fun ρ q => t ρ fun d => match d with
  | .bl b => q b
  | _ => False
theorem dtest_ {F : Fx} {t : RE} (σ : St) (H : Hp) (Q : Bool → Hp → Prop) (h : liftT F (dtest t) σ H Q) : liftE F t σ H fun x H' => ∃ k, x = .bl k ∧ Q k H' := by
  obtain ⟨E, ρ, q, env, hq, k⟩ := h
  refine ⟨E, ρ, _, env, hq, fun d hd v H' x hv => ?_⟩
  cases d with
  | bl b => exact ⟨b, hv, k b hd H' x⟩
  | _ => exact hd.elim
theorem t_cmp {op : CmpOp} {r : R2D} (ho : OpD X (compareOp op) r) (ha : BD X a ta) (hb : BD X b tb) (hm : behindInMarks op b = false) : TD X (.Compare a [op] [b] pos) (dtest (dop r ta tb)) := fun F hF => by
  obtain ⟨r', h1, h2⟩ := ho
  exact (pt_cmpR h1 (ha F hF) (hb F hF) hm).imp fun σ H Q h => two_ hF h2 σ H _ (dtest_ σ H Q h)
/-- an expression that gives a bool -/
theorem t_val (h : ED X e ta) (he : ∀ whole, isTrue e X.env whole = (do let v ← whole; standAt e.pos; holding [v] (truthy v)) := by intro _; rfl) : TD X e (dtest ta) := fun F hF =>
  (pt_val (h F hF) he).imp fun σ H Q h => dtest_ σ H Q h
end
end DL

set_option Elab.async false
set_option linter.all false
set_option maxRecDepth 100000
set_option maxHeartbeats 4000000
namespace DL
open PySem L2
/-! ### data as the library has it -/
mutual
def D.py : D → PyData
  | .non => .none
  | .bl b => .bool b
  | .int i => .int i
  | .str x => .str x
  | .tup xs => .tuple (D.pys xs)
  | .lst xs => .list (D.pys xs)
  | .obj _ _ _ => .dict []
  | .dct _ _ => .dict []
def D.pys : List D → List PyData
  | [] => []
  | d :: ds => d.py :: D.pys ds
end
mutual
/-- plain to the depth n -/
def D.fitN : Nat → D → Bool
  | _, .non => true
  | _, .bl _ => true
  | _, .int _ => true
  | _, .str x => PyData.canLay0 (.str x)
  | 0, .tup _ => false
  | 0, .lst _ => false
  | n + 1, .tup xs => D.fitsN n xs
  | n + 1, .lst xs => D.fitsN n xs
  | _, .obj _ _ _ => false
  | _, .dct _ _ => false
def D.fitsN : Nat → List D → Bool
  | _, [] => true
  | n, d :: ds => D.fitN n d && D.fitsN n ds
end
/-- data that == takes -/
def D.fit (d : D) : Bool := d.fitN 8
def D.eqv (x y : D) : Bool := PyData.eqv x.py y.py
theorem pys_map : ∀ ds : List D, D.pys ds = ds.map D.py
  | [] => rfl
  | d :: ds => by rw [D.pys, pys_map ds]; rfl
mutual
theorem fitN_lay : ∀ (n : Nat) (d : D), d.fitN n = true → d.py.canLay0 = true ∧ d.py.depth ≤ n
  | _, .non, _ => ⟨rfl, Nat.zero_le _⟩
  | _, .bl _, _ => ⟨rfl, Nat.zero_le _⟩
  | _, .int _, _ => ⟨rfl, Nat.zero_le _⟩
  | n, .str x, h => ⟨by cases n <;> exact h, Nat.zero_le _⟩
  | 0, .tup _, h => absurd (show false = true from h) Bool.false_ne_true
  | 0, .lst _, h => absurd (show false = true from h) Bool.false_ne_true
  | n + 1, .tup xs, h => by
    obtain ⟨h1, h2⟩ := fitsN_lay n xs h
    exact ⟨h1, Nat.succ_le_succ h2⟩
  | n + 1, .lst xs, h => by
    obtain ⟨h1, h2⟩ := fitsN_lay n xs h
    exact ⟨h1, Nat.succ_le_succ h2⟩
  | n, .obj _ _ _, h => absurd (show false = true by cases n <;> exact h) Bool.false_ne_true
  | n, .dct _ _, h => absurd (show false = true by cases n <;> exact h) Bool.false_ne_true
theorem fitsN_lay : ∀ (n : Nat) (ds : List D), D.fitsN n ds = true → PyData.canLayAll0 (D.pys ds) = true ∧ PyData.depthAll (D.pys ds) ≤ n
  | _, [], _ => ⟨rfl, Nat.zero_le _⟩
  | n, d :: ds, h => by
    rw [D.fitsN, Bool.and_eq_true] at h
    obtain ⟨h1, h2⟩ := fitN_lay n d h.1
    obtain ⟨h3, h4⟩ := fitsN_lay n ds h.2
    refine ⟨?_, ?_⟩
    · show (PyData.canLay0 d.py && PyData.canLayAll0 (D.pys ds)) = true
      rw [h1, h3]; rfl
    · show max (PyData.depth d.py) (PyData.depthAll (D.pys ds)) ≤ n
      omega
end
theorem fit_shaped {d : D} (h : d.fit = true) : SeqAt.shaped d.py = true := by
  obtain ⟨h1, h2⟩ := fitN_lay 8 d h
  unfold SeqAt.shaped
  rw [h1, decide_eq_true (show d.py.depth ≤ 64 by omega)]
  rfl
theorem dpAll_of {K : PySem.W.Frag} {E : Addr → Prop} {H : Hp} (P : ∀ (n : Nat) (d : D) (v : V), d.fitN n = true → Dn K E H d v → Dp K H v d.py) :
    ∀ (n : Nat) (ds : List D) (vs : List V), D.fitsN n ds = true → DnA K E H ds vs → DpAll K H vs (D.pys ds) := by
  intro n ds
  induction ds with
  | nil => intro vs _ h; rw [show vs = [] from h]; exact .nil
  | cons d ds ih =>
    intro vs hf h
    obtain ⟨x, r, rfl, h1, h2⟩ := h
    rw [D.fitsN, Bool.and_eq_true] at hf
    exact .cons (P n d x hf.1 h1) (ih r hf.2 h2)
theorem dp_of {K : PySem.W.Frag} {E : Addr → Prop} {H : Hp} : ∀ (n : Nat) (d : D) (v : V), d.fitN n = true → Dn K E H d v → Dp K H v d.py := by
  intro n
  induction n with
  | zero =>
    intro d v hf h
    cases d with
    | non => rw [show v = .non from h]; exact .non
    | bl b => rw [show v = .bl b from h]; exact .bl b
    | int i => rw [show v = .int i from h]; exact .int i
    | str x => rw [show v = .str x from h]; exact .str x
    | tup xs => exact absurd (show false = true from hf) Bool.false_ne_true
    | lst xs => exact absurd (show false = true from hf) Bool.false_ne_true
    | obj c ns xs => exact absurd (show false = true from hf) Bool.false_ne_true
    | dct ks vs => exact absurd (show false = true from hf) Bool.false_ne_true
  | succ n ih =>
    intro d v hf h
    have all : ∀ (ds : List D) (vs : List V), D.fitsN n ds = true → DnA K E H ds vs → DpAll K H vs (D.pys ds) := by
      intro ds
      induction ds with
      | nil => intro vs _ h; rw [show vs = [] from h]; exact .nil
      | cons d ds ih2 =>
        intro vs hf h
        obtain ⟨x, r, rfl, h1, h2⟩ := h
        rw [D.fitsN, Bool.and_eq_true] at hf
        exact .cons (ih d x hf.1 h1) (ih2 r hf.2 h2)
    cases d with
    | non => rw [show v = .non from h]; exact .non
    | bl b => rw [show v = .bl b from h]; exact .bl b
    | int i => rw [show v = .int i from h]; exact .int i
    | str x => rw [show v = .str x from h]; exact .str x
    | tup xs =>
      obtain ⟨a, ys, rfl, t, q⟩ := h
      exact .tup t.sq (all xs ys hf q)
    | lst xs =>
      obtain ⟨a, ys, rfl, t, q⟩ := h
      exact .lst t.sq (all xs ys hf q)
    | obj c ns xs => exact absurd (show false = true from hf) Bool.false_ne_true
    | dct ks vs => exact absurd (show false = true from hf) Bool.false_ne_true
theorem Top.dp {F : Fx} {E : Addr → Prop} {H : Hp} {d : D} {v : V} (hf : d.fit = true) (h : Top F E H d v) : Dp F.K H v d.py := by
  cases d with
  | lst ds =>
    obtain ⟨a, xs, rfl, l, q⟩ := h
    exact .lst l.sq (dpAll_of dp_of 7 ds xs hf q)
  | non => exact dp_of (E := E) 8 _ v hf h
  | bl b => exact dp_of (E := E) 8 _ v hf h
  | int i => exact dp_of (E := E) 8 _ v hf h
  | str x => exact dp_of (E := E) 8 _ v hf h
  | tup xs => exact dp_of (E := E) 8 _ v hf h
  | obj c ns xs => exact dp_of (E := E) 8 _ v hf h
  | dct ks vs => exact absurd (show false = true from hf) Bool.false_ne_true

/-! ### operators -/
section
variable {X : Cx}
def rII (g : Int → Int → D) : R2D := fun x y q => match x, y with
  | .int i, .int j => q (g i j)
  | _, _ => False
def rIC (C : Int → Int → Prop) (g : Int → Int → D) : R2D := fun x y q => match x, y with
  | .int i, .int j => C i j ∧ q (g i j)
  | _, _ => False
theorem opd_II {f : Value → Value → Sem Value} {g : Int → Int → V} {g' : Int → Int → D} (h : OpR X f (rI0 g)) (hg : ∀ i j K E H, Dn K E H (g' i j) (g i j)) : OpD X f (rII g') := by
  refine ⟨_, h, fun F E H x y u v q Q hF at_ hx hy hr k => ?_⟩
  cases x <;> cases y <;> first
    | exact (show False from hr).elim
    | exact ⟨_, _, hx, hy, k _ hr _ H (XExt.refl at_.so) (hg _ _ _ _ _)⟩
theorem opd_IC {f : Value → Value → Sem Value} {C : Int → Int → Prop} {g : Int → Int → V} {g' : Int → Int → D} (h : OpR X f (rI C g)) (hg : ∀ i j K E H, Dn K E H (g' i j) (g i j)) : OpD X f (rIC C g') := by
  refine ⟨_, h, fun F E H x y u v q Q hF at_ hx hy hr k => ?_⟩
  cases x <;> cases y <;> first
    | exact (show False from hr).elim
    | exact ⟨_, _, hx, hy, hr.1, k _ hr.2 _ H (XExt.refl at_.so) (hg _ _ _ _ _)⟩
def rSub : R2D := rII fun i j => .int (i - j)
def rFdiv : R2D := rIC CDiv fun i j => .int (i / j)
def rMod : R2D := rIC (fun _ j => 0 < j) fun i j => .int (i % j)
def rPow : R2D := rIC CPow fun i j => .int (i ^ j.toNat)
theorem o_sub : OpD X (binaryOp .Sub) rSub := opd_II op_sub fun _ _ _ _ _ => rfl
theorem o_fdiv : OpD X (binaryOp .FloorDiv) rFdiv := opd_IC op_fdiv fun _ _ _ _ _ => rfl
theorem o_mod : OpD X (binaryOp .Mod) rMod := opd_IC op_mod fun _ _ _ _ _ => rfl
theorem o_pow : OpD X (binaryOp .Pow) rPow := opd_IC op_pow fun _ _ _ _ _ => rfl
def rLt : R2D := rII fun i j => .bl (decide (i < j))
def rLe : R2D := rII fun i j => .bl (decide (i ≤ j))
def rGt : R2D := rII fun i j => .bl (decide (j < i))
def rGe : R2D := rII fun i j => .bl (decide (j ≤ i))
theorem o_lt : OpD X (compareOp .Lt) rLt := opd_II op_lt fun _ _ _ _ _ => rfl
theorem o_le : OpD X (compareOp .LtE) rLe := opd_II op_le fun _ _ _ _ _ => rfl
theorem o_gt : OpD X (compareOp .Gt) rGt := opd_II op_gt fun _ _ _ _ _ => rfl
theorem o_ge : OpD X (compareOp .GtE) rGe := opd_II op_ge fun _ _ _ _ _ => rfl
/-- + -/
def rAdd : R2D := fun x y q => match x, y with
  | .int i, .int j => q (.int (i + j))
  | .tup xs, .tup ys => xs.length + ys.length ≤ sizeLine ∧ q (.tup (xs ++ ys))
  | .lst xs, .lst ys => xs.length + ys.length ≤ sizeLine ∧ q (.lst (xs ++ ys))
  | .str a, .str b => a.length + b.length ≤ sizeLine ∧ q (.str (a ++ b))
  | _, _ => False
theorem nil_of_len {K : PySem.W.Frag} {E : Addr → Prop} {H : Hp} {ds : List D} (h : DnA K E H ds []) : ds = [] := by
  have := h.len
  exact List.eq_nil_of_length_eq_zero this.symm
theorem o_add : OpD X (binaryOp .Add) rAdd := by
  refine ⟨_, op_add.or (op_catA.or (op_cat.or op_add_str)), fun F E H x y u v q Q hF at_ hx hy hr k => ?_⟩
  cases x with
  | int i =>
    cases y with
    | int j => exact .inl ⟨_, _, hx, hy, k _ hr _ H (XExt.refl at_.so) rfl⟩
    | _ => exact (show False from hr).elim
  | tup ds =>
    cases y with
    | tup es =>
      obtain ⟨hz, hr⟩ := hr
      obtain ⟨a, xs, rfl, t1, q1⟩ := hx
      obtain ⟨b, ys, rfl, t2, q2⟩ := hy
      refine .inr (.inl ⟨a, b, xs, ys, rfl, rfl, by rw [← hF]; exact t1.sq, by rw [← hF]; exact t2.sq, by rw [q1.len, q2.len]; exact hz, fun hn => ?_, fun hn hm => ?_, fun hn hm p hp => ?_⟩)
      · subst hn
        rw [nil_of_len q1] at hr
        exact k _ hr _ H (XExt.refl at_.so) ⟨b, ys, rfl, t2, q2⟩
      · subst hm
        rw [nil_of_len q2, List.append_nil] at hr
        exact k _ hr _ H (XExt.refl at_.so) ⟨a, xs, rfl, t1, q1⟩
      · exact k _ hr _ _ (XExt.new at_.so hp) (at_.tup hp (q1.app q2))
    | _ => exact (show False from hr).elim
  | lst ds =>
    cases y with
    | lst es =>
      obtain ⟨hz, hr⟩ := hr
      obtain ⟨a, xs, rfl, t1, q1⟩ := hx
      obtain ⟨b, ys, rfl, t2, q2⟩ := hy
      exact .inr (.inr (.inl ⟨a, b, xs, ys, rfl, rfl, t1.2, t2.2, by rw [q1.len, q2.len]; exact hz, fun p hp => k _ hr _ _ (XExt.new at_.so hp) (at_.lst hp (q1.app q2))⟩))
    | _ => exact (show False from hr).elim
  | str a =>
    cases y with
    | str b => exact .inr (.inr (.inr ⟨a, b, hx, hy, hr.1, k _ hr.2 _ H (XExt.refl at_.so) rfl⟩))
    | _ => exact (show False from hr).elim
  | _ => cases y <;> exact (show False from hr).elim
/-- n times the same -/
theorem DnA.rep {K : PySem.W.Frag} {E : Addr → Prop} {H : Hp} {ds : List D} {xs : List V} (h : DnA K E H ds xs) : ∀ n : Nat, DnA K E H (List.replicate n ds).flatten (List.replicate n xs).flatten
  | 0 => rfl
  | n + 1 => by
    rw [List.replicate_succ, List.replicate_succ, List.flatten_cons, List.flatten_cons]
    exact h.app (DnA.rep h n)
def rMul : R2D := fun x y q => match x, y with
  | .int i, .int j => CMul i j ∧ q (.int (i * j))
  | .tup xs, .int k => xs ≠ [] ∧ 2 ≤ k ∧ k ≤ 1000 ∧ xs.length ≤ 1000 ∧ q (.tup (List.replicate k.toNat xs).flatten)
  | .lst xs, .int k => 0 ≤ k ∧ k ≤ 1000 ∧ xs.length ≤ 1000 ∧ q (.lst (List.replicate k.toNat xs).flatten)
  | _, _ => False
theorem o_mul : OpD X (binaryOp .Mult) rMul := by
  refine ⟨_, op_mul.or (op_repT.or op_rep), fun F E H x y u v q Q hF at_ hx hy hr k => ?_⟩
  cases x with
  | int i =>
    cases y with
    | int j => exact .inl ⟨_, _, hx, hy, hr.1, k _ hr.2 _ H (XExt.refl at_.so) rfl⟩
    | _ => exact (show False from hr).elim
  | tup ds =>
    cases y with
    | int n =>
      obtain ⟨h0, h1, h2, h3, hr⟩ := hr
      obtain ⟨a, xs, rfl, t1, q1⟩ := hx
      refine .inr (.inl ⟨a, n, xs, rfl, hy, by rw [← hF]; exact t1.sq, fun z => h0 (by rw [z] at q1; exact nil_of_len q1), h1, h2, by rw [q1.len]; exact h3, fun p hp => ?_⟩)
      exact k _ hr _ _ (XExt.new at_.so hp) (at_.tup hp (q1.rep _))
    | _ => exact (show False from hr).elim
  | lst ds =>
    cases y with
    | int n =>
      obtain ⟨h1, h2, h3, hr⟩ := hr
      obtain ⟨a, xs, rfl, t1, q1⟩ := hx
      refine .inr (.inr ⟨a, n, xs, rfl, hy, t1.2, by omega, by omega, ?_, fun p hp => ?_⟩)
      · rw [q1.len]
        have h4 : ds.length * n.toNat ≤ 1000 * 1000 := Nat.mul_le_mul h3 (by omega)
        have h5 : (1000 * 1000 : Nat) ≤ sizeLine := by rw [sizeLine_eq]; decide
        omega
      · exact k _ hr _ _ (XExt.new at_.so hp) (at_.lst hp (q1.rep _))
    | _ => exact (show False from hr).elim
  | _ => cases y <;> exact (show False from hr).elim
/-! ### ==, is None, in -/
def rEq : R2D := fun x y q => x.fit = true ∧ y.fit = true ∧ q (.bl (x.eqv y))
def rNe : R2D := fun x y q => x.fit = true ∧ y.fit = true ∧ q (.bl (!x.eqv y))
theorem o_eq {k : Nat} (hr : Room k X.A) : OpD X (compareOp .Eq) rEq := by
  refine ⟨_, op_eqD hr.units, fun F E H x y u v q Q hF at_ hx hy h k => ?_⟩
  obtain ⟨h1, h2, h3⟩ := h
  exact ⟨x.py, y.py, hF ▸ hx.dp h1, hF ▸ hy.dp h2, fit_shaped h1, fit_shaped h2, k _ h3 _ H (XExt.refl at_.so) rfl⟩
theorem o_ne {k : Nat} (hr : Room k X.A) : OpD X (compareOp .NotEq) rNe := by
  refine ⟨_, op_neD hr.units, fun F E H x y u v q Q hF at_ hx hy h k => ?_⟩
  obtain ⟨h1, h2, h3⟩ := h
  exact ⟨x.py, y.py, hF ▸ hx.dp h1, hF ▸ hy.dp h2, fit_shaped h1, fit_shaped h2, k _ h3 _ H (XExt.refl at_.so) rfl⟩
def D.isNon : D → Bool
  | .non => true
  | _ => false
def rIs : R2D := fun x y q => match y with
  | .non => q (.bl x.isNon)
  | _ => False
def rIsNot : R2D := fun x y q => match y with
  | .non => q (.bl (!x.isNon))
  | _ => False
theorem isNon_of {F : Fx} {E : Addr → Prop} {H : Hp} {d : D} {v : V} (h : Top F E H d v) : decide (v = .non) = d.isNon := by
  cases d with
  | non => rw [show v = .non from h]; rfl
  | bl b => rw [show v = .bl b from h]; rfl
  | int i => rw [show v = .int i from h]; rfl
  | str x => rw [show v = .str x from h]; rfl
  | tup xs => obtain ⟨a, ys, rfl, _⟩ := h; rfl
  | lst xs => obtain ⟨a, ys, rfl, _⟩ := h; rfl
  | obj c ns xs => obtain ⟨a, dx, fs, rfl, _⟩ := h; rfl
  | dct ks vs => obtain ⟨a, us, ws, rfl, _⟩ := h; rfl
theorem o_is : OpD X (compareOp .Is) rIs := by
  refine ⟨_, op_isN, fun F E H x y u v q Q hF at_ hx hy h k => ?_⟩
  cases y with
  | non => exact ⟨hy, k _ h _ H (XExt.refl at_.so) (by rw [isNon_of hx]; rfl)⟩
  | _ => exact (show False from h).elim
theorem o_isnot : OpD X (compareOp .IsNot) rIsNot := by
  refine ⟨_, op_notN, fun F E H x y u v q Q hF at_ hx hy h k => ?_⟩
  cases y with
  | non => exact ⟨hy, k _ h _ H (XExt.refl at_.so) (by rw [isNon_of hx]; rfl)⟩
  | _ => exact (show False from h).elim
end
end DL

set_option Elab.async false
set_option linter.all false
set_option maxRecDepth 100000
set_option maxHeartbeats 4000000
namespace DL
open PySem L2
/-! ### in, not in -/
def D.flat : D → Bool
  | .non => true
  | .bl _ => true
  | .int _ => true
  | .str _ => true
  | _ => false
theorem flat_of {K : PySem.W.Frag} {E : Addr → Prop} {H : Hp} {d : D} {v : V} (hf : d.flat = true) (h : Dn K E H d v) : flatV v = true := by
  cases d with
  | non => rw [show v = .non from h]; rfl
  | bl b => rw [show v = .bl b from h]; rfl
  | int i => rw [show v = .int i from h]; rfl
  | str x => rw [show v = .str x from h]; rfl
  | _ => exact absurd (show false = true from hf) Bool.false_ne_true
theorem eqV_of {K : PySem.W.Frag} {E : Addr → Prop} {H : Hp} {d e : D} {v u : V} (hf : d.flat = true) (hg : e.flat = true) (h : Dn K E H d v) (g : Dn K E H e u) : eqV v u = d.eqv e := by
  cases d with
  | non => rw [show v = .non from h]; cases e with
    | non => rw [show u = .non from g]; rfl
    | bl b => rw [show u = .bl b from g]; rfl
    | int i => rw [show u = .int i from g]; rfl
    | str x => rw [show u = .str x from g]; rfl
    | _ => exact absurd (show false = true from hg) Bool.false_ne_true
  | bl b => rw [show v = .bl b from h]; cases e with
    | non => rw [show u = .non from g]; rfl
    | bl b => rw [show u = .bl b from g]; rfl
    | int i => rw [show u = .int i from g]; rfl
    | str x => rw [show u = .str x from g]; rfl
    | _ => exact absurd (show false = true from hg) Bool.false_ne_true
  | int i => rw [show v = .int i from h]; cases e with
    | non => rw [show u = .non from g]; rfl
    | bl b => rw [show u = .bl b from g]; rfl
    | int i => rw [show u = .int i from g]; rfl
    | str x => rw [show u = .str x from g]; rfl
    | _ => exact absurd (show false = true from hg) Bool.false_ne_true
  | str x => rw [show v = .str x from h]; cases e with
    | non => rw [show u = .non from g]; rfl
    | bl b => rw [show u = .bl b from g]; rfl
    | int i => rw [show u = .int i from g]; rfl
    | str x => rw [show u = .str x from g]; rfl
    | _ => exact absurd (show false = true from hg) Bool.false_ne_true
  | _ => exact absurd (show false = true from hf) Bool.false_ne_true
theorem flats_of {K : PySem.W.Frag} {E : Addr → Prop} {H : Hp} : ∀ {ds : List D} {xs : List V}, ds.all D.flat = true → DnA K E H ds xs → xs.all flatV = true
  | [], _, _, h => by rw [show _ = [] from h]; rfl
  | d :: ds, _, hf, ⟨x, r, e, h1, h2⟩ => by
    subst e
    rw [List.all_cons, Bool.and_eq_true] at hf
    rw [List.all_cons, flat_of hf.1 h1, flats_of hf.2 h2]; rfl
theorem any_of {K : PySem.W.Frag} {E : Addr → Prop} {H : Hp} {e : D} {u : V} (hg : e.flat = true) (g : Dn K E H e u) : ∀ {ds : List D} {xs : List V}, ds.all D.flat = true → DnA K E H ds xs → (xs.any fun y => eqV y u) = ds.any fun d => d.eqv e
  | [], _, _, h => by rw [show _ = [] from h]; rfl
  | d :: ds, _, hf, ⟨x, r, ex, h1, h2⟩ => by
    subst ex
    rw [List.all_cons, Bool.and_eq_true] at hf
    rw [List.any_cons, List.any_cons, eqV_of hf.1 hg h1 g, any_of hg g hf.2 h2]
theorem pys_any {e : PyData} : ∀ ds : List D, ((D.pys ds).any fun z => PyData.eqv z e) = ds.any fun d => PyData.eqv d.py e
  | [] => rfl
  | d :: ds => by rw [D.pys, List.any_cons, List.any_cons, pys_any ds]
def isIn (x : D) (ds : List D) : Bool := ds.any fun z => z.eqv x
def rIn : R2D := fun x y q => match y with
  | .tup ds => x.flat = true ∧ ds.all D.flat = true ∧ q (.bl (isIn x ds))
  | .lst ds => x.fit = true ∧ (D.lst ds).fit = true ∧ q (.bl (isIn x ds))
  | _ => False
def rNotIn : R2D := fun x y q => match y with
  | .tup ds => x.flat = true ∧ ds.all D.flat = true ∧ q (.bl (!isIn x ds))
  | .lst ds => x.fit = true ∧ (D.lst ds).fit = true ∧ q (.bl (!isIn x ds))
  | _ => False
section
variable {X : Cx} {e a b c : Expr} {ta tb tc : RE} {pos : Pos}
theorem Top.flat {F : Fx} {E : Addr → Prop} {H : Hp} {d : D} {v : V} (hf : d.flat = true) (h : Top F E H d v) : Dn F.K E H d v := by
  cases d with
  | lst ds => exact absurd (show false = true from hf) Bool.false_ne_true
  | dct ks vs => exact absurd (show false = true from hf) Bool.false_ne_true
  | _ => exact h
theorem o_in {k : Nat} (hr : Room k X.A) : OpD X (compareOp .In) rIn := by
  refine ⟨_, op_in_seq.or (op_inD (Nat.lt_of_le_of_lt (by have := hr.un; omega) hr.un)), fun F E H x y u v q Q hF at_ hx hy h k => ?_⟩
  cases y with
  | tup ds =>
    obtain ⟨h1, h2, h3⟩ := h
    obtain ⟨a, xs, rfl, t, g⟩ := hy
    have hx' := hx.flat h1
    refine .inl ⟨a, xs, rfl, .inr (by rw [← hF]; exact t.sq), flat_of h1 hx', flats_of h2 g, ?_⟩
    refine k _ h3 _ H (XExt.refl at_.so) ?_
    show V.bl (inV u xs) = V.bl (isIn x ds)
    unfold inV isIn
    rw [any_of h1 hx' h2 g]
  | lst ds =>
    obtain ⟨h1, h2, h3⟩ := h
    refine .inr ⟨x.py, D.pys ds, hF ▸ hx.dp h1, hF ▸ (Top.dp (d := .lst ds) h2 hy), fit_shaped h1, fit_shaped h2, ?_⟩
    refine k _ h3 _ H (XExt.refl at_.so) ?_
    rw [pys_any]
    rfl
  | _ => exact (show False from h).elim
theorem o_notin {k : Nat} (hr : Room k X.A) : OpD X (compareOp .NotIn) rNotIn := by
  refine ⟨_, op_notIn_seq.or (op_notInD (Nat.lt_of_le_of_lt (by have := hr.un; omega) hr.un)), fun F E H x y u v q Q hF at_ hx hy h k => ?_⟩
  cases y with
  | tup ds =>
    obtain ⟨h1, h2, h3⟩ := h
    obtain ⟨a, xs, rfl, t, g⟩ := hy
    have hx' := hx.flat h1
    refine .inl ⟨a, xs, rfl, .inr (by rw [← hF]; exact t.sq), flat_of h1 hx', flats_of h2 g, ?_⟩
    refine k _ h3 _ H (XExt.refl at_.so) ?_
    show V.bl (!inV u xs) = V.bl (!isIn x ds)
    unfold inV isIn
    rw [any_of h1 hx' h2 g]
  | lst ds =>
    obtain ⟨h1, h2, h3⟩ := h
    refine .inr ⟨x.py, D.pys ds, hF ▸ hx.dp h1, hF ▸ (Top.dp (d := .lst ds) h2 hy), fit_shaped h1, fit_shaped h2, ?_⟩
    refine k _ h3 _ H (XExt.refl at_.so) ?_
    rw [pys_any]
    rfl
  | _ => exact (show False from h).elim

/-! ### a subscript, a slice -/
def rIx : R2D := fun x y q => match x, y with
  | .tup ds, .int i => (match atI ds i with
    | some d => q d
    | none => False)
  | .lst ds, .int i => (match atI ds i with
    | some d => q d
    | none => False)
  | _, _ => False
theorem DnA.at {K : PySem.W.Frag} {E : Addr → Prop} {H : Hp} {ds : List D} {xs : List V} (h : DnA K E H ds xs) {i : Int} {d : D} (e : atI ds i = some d) : ∃ v, atI xs i = some v ∧ Dn K E H d v := by
  unfold atI at e ⊢
  rw [h.len]
  cases q : ixN ds.length i with
  | none => rw [q] at e; cases e
  | some j =>
    rw [q] at e
    exact h.get e
theorem e_ix (ha : BD X a ta) (hb : BD X b tb) (hs : PlainIx b) : ED X (.Subscript a b pos) (dop rIx ta tb) := fun F hF => by
  refine (pe_ix (ix_list.or ix_tup) (ha F hF) (hb F hF) hs).imp (two_ hF fun F E H x y u v q Q hF at_ hx hy h k => ?_)
  cases x with
  | tup ds =>
    cases y with
    | int i =>
      obtain ⟨a, xs, rfl, t, g⟩ := hx
      have h' : (match atI ds i with | some d => q d | none => False) := h
      cases e : atI ds i with
      | none => rw [e] at h'; exact h'.elim
      | some d =>
        rw [e] at h'
        obtain ⟨w, h1, h2⟩ := g.at e
        exact .inr ⟨a, xs, i, w, rfl, hy, by rw [← hF]; exact t.sq, h1, k _ h' _ H (XExt.refl at_.so) h2⟩
    | _ => exact (show False from h).elim
  | lst ds =>
    cases y with
    | int i =>
      obtain ⟨a, xs, rfl, t, g⟩ := hx
      have h' : (match atI ds i with | some d => q d | none => False) := h
      cases e : atI ds i with
      | none => rw [e] at h'; exact h'.elim
      | some d =>
        rw [e] at h'
        obtain ⟨w, h1, h2⟩ := g.at e
        exact .inl ⟨a, xs, i, w, rfl, hy, t.sq, h1, k _ h' _ H (XExt.refl at_.so) h2⟩
    | _ => exact (show False from h).elim
  | _ => cases y <;> exact (show False from h).elim
/-- a part of a slice: left out, or an int -/
abbrev RO := Rho → (Option Int → Prop) → Prop
def liftO (F : Fx) (t : RO) : TO := fun σ H Q => ∃ E ρ q, DEnv F E σ H ρ ∧ t ρ q ∧ ∀ o, q o → ∀ H', XExt F H H' → Q o H'
def OD (X : Cx) (e : Option Expr) (t : RO) : Prop := ∀ F : Fx, F.K = X.K → PO X e (liftO F t)
theorem _root_.L2.PO.imp {X : Cx} {e : Option Expr} {t u : TO} (h : PO X e t) (k : ∀ σ H Q, u σ H Q → t σ H Q) : PO X e u := ⟨fun pins s σ H Q I q => h.run pins s σ H Q I (k _ _ _ q)⟩
def dno : RO := fun _ q => q none
def dpart (t : RE) : RO := fun ρ q => t ρ fun d => match d with
  | .int i => q (some i)
  | _ => False
theorem x_none : OD X none dno := fun F hF => po_none.imp fun σ H Q => by
  rintro ⟨E, ρ, q, env, h, k⟩
  exact k _ h H (XExt.refl env.so)
theorem x_some (h : ED X e ta) : OD X (some e) (dpart ta) := fun F hF => (po_some (h F hF)).imp fun σ H Q => by
  rintro ⟨E, ρ, q, env, h, k⟩
  refine ⟨E, ρ, _, env, h, fun d hd v H' x hv => ?_⟩
  cases d with
  | int i => exact ⟨i, hv, k _ hd H' x⟩
  | _ => exact (show False from hd).elim
/-- the items of a slice -/
def cut {α : Type} (xs : List α) (lo hi : Option Int) : List α := (xs.drop (HT.sIx xs.length 0 lo)).take (HT.sIx xs.length xs.length hi - HT.sIx xs.length 0 lo)
theorem DnA.cut {K : PySem.W.Frag} {E : Addr → Prop} {H : Hp} {ds : List D} {xs : List V} (h : DnA K E H ds xs) (lo hi : Option Int) : DnA K E H (cut ds lo hi) (cutV xs lo hi) := by
  unfold DL.cut cutV
  rw [h.len]
  exact (h.drop _).take _
def dsl (t : RE) (l u : RO) : RE := fun ρ q => t ρ fun d => l ρ fun lo => u ρ fun hi => match d with
  | .tup ds => q (.tup (cut ds lo hi))
  | .lst ds => q (.lst (cut ds lo hi))
  | _ => False
theorem cut_whole {α : Type} {xs : List α} {lo hi : Option Int} (h : HT.sIx xs.length 0 lo = 0 ∧ HT.sIx xs.length xs.length hi = xs.length) : cut xs lo hi = xs := by
  unfold cut
  rw [h.1, h.2, Nat.sub_zero, List.drop_zero, List.take_length]
theorem e_slice {lo hi : Option Expr} {l u : RO} {p2 : Pos} (ha : BD X a ta) (hl : OD X lo l) (hu : OD X hi u) : ED X (.Subscript a (.Slice lo hi none p2) pos) (dsl ta l u) := fun F hF => by
  refine (pe_slice (sl_list.or sl_tupA) (ha F hF) (hl F hF) (hu F hF)).imp fun σ H Q => ?_
  rintro ⟨E, ρ, q, env, h, k⟩
  refine ⟨E, ρ, _, env, h, fun d hd v H1 x1 hv => ?_⟩
  have e1 := env.step x1
  refine ⟨E, ρ, _, e1, hd, fun lo' hd2 H2 x2 => ?_⟩
  have e2 := e1.step x2
  refine ⟨E, ρ, _, e2, hd2, fun hi' hd3 H3 x3 => ?_⟩
  have e3 := e2.step x3
  have hv3 := (hv.ext e1.at_ x2).ext e2.at_ x3
  cases d with
  | tup ds =>
    obtain ⟨a, xs, rfl, t, g⟩ := hv3
    refine .inr ⟨a, xs, rfl, by rw [← hF]; exact t.sq, fun hw => ?_, fun hw p hp => ?_⟩
    · have hw' : cut ds lo' hi' = ds := cut_whole (by rw [← g.len]; exact hw)
      have hd4 : q (.tup (cut ds lo' hi')) := hd3
      rw [hw'] at hd4
      exact k _ hd4 _ H3 (x1.trans (x2.trans x3)) ⟨a, xs, rfl, t, g⟩
    · exact k _ hd3 _ _ (x1.trans (x2.trans (x3.trans (XExt.new e3.so hp)))) (e3.at_.tup hp (g.cut _ _))
  | lst ds =>
    obtain ⟨a, xs, rfl, t, g⟩ := hv3
    exact .inl ⟨a, xs, rfl, t.sq, fun p hp => k _ hd3 _ _ (x1.trans (x2.trans (x3.trans (XExt.new e3.so hp)))) (e3.at_.lst hp (g.cut _ _))⟩
  | _ => exact (show False from hd3).elim
end
end DL

set_option Elab.async false
set_option linter.all false
set_option maxRecDepth 100000
set_option maxHeartbeats 4000000
namespace DL
open PySem L2
section
variable {X : Cx} {e a b c : Expr} {ta tb tc : RE} {pos : Pos} {es : List Expr}
/-! ### chains -/
def dchain (r r' : R2D) (ta tb tc : RE) : RE := fun ρ q => ta ρ fun x => tb ρ fun y => r x y fun z => match z with
  | .bl k => if k = true then tc ρ fun w => r' y w q else q (.bl false)
  | _ => False
theorem chain_ {F : Fx} {r r' : R2D} {s s' : R2} (hF : F.K = X.K)
    (hr : ∀ (F : Fx) (E : Addr → Prop) (H : Hp) (x y : D) (u v : V) (q : D → Prop) (Q : VK), F.K = X.K → At F E H → Top F E H x u → Top F E H y v → r x y q → (∀ d, q d → ∀ w H', XExt F H H' → Dn F.K E H' d w → Q w H') → s u v H Q)
    (hr' : ∀ (F : Fx) (E : Addr → Prop) (H : Hp) (x y : D) (u v : V) (q : D → Prop) (Q : VK), F.K = X.K → At F E H → Top F E H x u → Top F E H y v → r' x y q → (∀ d, q d → ∀ w H', XExt F H H' → Dn F.K E H' d w → Q w H') → s' u v H Q)
    (σ : St) (H : Hp) (Q : VK) (h : liftE F (dchain r r' ta tb tc) σ H Q) : tChain s s' (liftB F ta) (liftB F tb) (liftB F tc) σ H Q := by
  obtain ⟨E, ρ, q, env, hq, k⟩ := h
  refine ⟨E, ρ, _, env, hq, fun x hx u H1 x1 hu => ?_⟩
  have e1 := env.step x1
  refine ⟨E, ρ, _, e1, hx, fun y hy v H2 x2 hv => ?_⟩
  have e2 := e1.step x2
  refine hr F E H2 x y u v _ _ hF e2.at_ (hu.ext e1.at_ x2) hv hy fun d hd w H3 x3 hw => ?_
  have e3 := e2.step x3
  cases d with
  | bl kk =>
    refine ⟨kk, hw, ?_⟩
    cases kk with
    | true =>
      rw [if_pos rfl]
      have hd' : tc ρ fun w => r' y w q := by simpa using hd
      refine ⟨E, ρ, _, e3, hd', fun z hz v' H4 x4 hv' => ?_⟩
      have e4 := e3.step x4
      exact hr' F E H4 y z v v' q Q hF e4.at_ ((hv.ext e2.at_ x3).ext e3.at_ x4) hv' hz fun d hd w H5 x5 hw => k d hd w H5 (x1.trans (x2.trans (x3.trans (x4.trans x5)))) hw
    | false =>
      rw [if_neg Bool.false_ne_true]
      have hd' : q (.bl false) := by simpa using hd
      exact k _ hd' _ H3 (x1.trans (x2.trans x3)) rfl
  | _ => exact (show False from hd).elim
theorem e_chain {op op' : CmpOp} {r r' : R2D} (ho : OpD X (compareOp op) r) (ho' : OpD X (compareOp op') r') (ha : BD X a ta) (hb : BD X b tb) (hc : BD X c tc)
    (hm : lastMarks [op, op'] [b, c] = false := by with_unfolding_all rfl) : ED X (.Compare a [op, op'] [b, c] pos) (dchain r r' ta tb tc) := fun F hF => by
  obtain ⟨s, h1, h2⟩ := ho
  obtain ⟨s', h1', h2'⟩ := ho'
  exact (pe_chain h1 h1' (ha F hF) (hb F hF) (hc F hF) hm).imp (chain_ hF h2 h2')
theorem t_chain {op op' : CmpOp} {r r' : R2D} (ho : OpD X (compareOp op) r) (ho' : OpD X (compareOp op') r') (ha : BD X a ta) (hb : BD X b tb) (hc : BD X c tc)
    (hm : lastMarks [op, op'] [b, c] = false := by with_unfolding_all rfl) : TD X (.Compare a [op, op'] [b, c] pos) (dtest (dchain r r' ta tb tc)) := fun F hF => by
  obtain ⟨s, h1, h2⟩ := ho
  obtain ⟨s', h1', h2'⟩ := ho'
  exact (pt_chain h1 h1' (ha F hF) (hb F hF) (hc F hF) hm).imp fun σ H Q h => chain_ hF h2 h2' σ H _ (dtest_ σ H Q h)

/-! ### and, or, not, if -/
variable {t u : RT} {rest : List Expr}
def dand (t u : RT) : RT := fun ρ q => t ρ fun c => if c = true then u ρ q else q false
def dor (t u : RT) : RT := fun ρ q => t ρ fun c => if c = true then q true else u ρ q
def dnot (t : RT) : RT := fun ρ q => t ρ fun c => q (!c)
theorem w_and1 (ha : TD X a t) : WD X (.BoolOp .And [a] pos) t := fun F hF => pw_and1 (ha F hF)
theorem w_or1 (ha : TD X a t) : WD X (.BoolOp .Or [a] pos) t := fun F hF => pw_or1 (ha F hF)
theorem w_and (ha : TD X a t) (hb : WD X (.BoolOp .And (b :: rest) pos) u) : WD X (.BoolOp .And (a :: b :: rest) pos) (dand t u) := fun F hF => (pw_and (ha F hF) (hb F hF)).imp fun σ H Q => by
  rintro ⟨E, ρ, q, env, h, k⟩
  refine ⟨E, ρ, _, env, h, fun b hb H1 x1 => ?_⟩
  cases b with
  | true =>
    rw [if_pos rfl] at hb ⊢
    exact ⟨E, ρ, q, env.step x1, hb, fun b hb H2 x2 => k b hb H2 (x1.trans x2)⟩
  | false =>
    rw [if_neg Bool.false_ne_true] at hb ⊢
    exact k _ hb H1 x1
theorem w_or (ha : TD X a t) (hb : WD X (.BoolOp .Or (b :: rest) pos) u) : WD X (.BoolOp .Or (a :: b :: rest) pos) (dor t u) := fun F hF => (pw_or (ha F hF) (hb F hF)).imp fun σ H Q => by
  rintro ⟨E, ρ, q, env, h, k⟩
  refine ⟨E, ρ, _, env, h, fun b hb H1 x1 => ?_⟩
  cases b with
  | true =>
    rw [if_pos rfl] at hb ⊢
    exact k _ hb H1 x1
  | false =>
    rw [if_neg Bool.false_ne_true] at hb ⊢
    exact ⟨E, ρ, q, env.step x1, hb, fun b hb H2 x2 => k b hb H2 (x1.trans x2)⟩
theorem w_t (h : WD X e t) : TD X e t := fun F hF => (h F hF).pt
theorem t_not (ha : TD X a t) : TD X (.UnaryOp .Not a pos) (dnot t) := fun F hF => (pt_not (ha F hF)).imp fun σ H Q => by
  rintro ⟨E, ρ, q, env, h, k⟩
  exact ⟨E, ρ, _, env, h, fun b hb H1 x1 => k _ hb H1 x1⟩
/-- as values -/
def dandv (ta tb : RE) : RE := fun ρ q => ta ρ fun d => match d with
  | .bl c => if c = true then tb ρ q else q (.bl false)
  | _ => False
def dorv (ta tb : RE) : RE := fun ρ q => ta ρ fun d => match d with
  | .bl c => if c = true then q (.bl true) else tb ρ q
  | _ => False
def dnotv (ta : RE) : RE := fun ρ q => ta ρ fun d => match d with
  | .bl c => q (.bl (!c))
  | _ => False
theorem e_one {op} (h : ED X a ta) : ED X (.BoolOp op [a] pos) ta := fun F hF => pe_one (h F hF)
theorem e_and (ha : ED X a ta) (hb : ED X (.BoolOp .And (b :: rest) pos) tb) : ED X (.BoolOp .And (a :: b :: rest) pos) (dandv ta tb) := fun F hF => (pe_and (ha F hF) (hb F hF)).imp fun σ H Q => by
  rintro ⟨E, ρ, q, env, h, k⟩
  refine ⟨E, ρ, _, env, h, fun d hd v H1 x1 hv => ?_⟩
  cases d with
  | bl c =>
    refine ⟨c, hv, ?_⟩
    cases c with
    | true =>
      rw [if_pos rfl]
      have hd' : tb ρ q := by simpa using hd
      exact ⟨E, ρ, q, env.step x1, hd', fun d hd v H2 x2 hv => k d hd v H2 (x1.trans x2) hv⟩
    | false =>
      rw [if_neg Bool.false_ne_true]
      have hd' : q (.bl false) := by simpa using hd
      exact k _ hd' _ H1 x1 rfl
  | _ => exact (show False from hd).elim
theorem e_or (ha : ED X a ta) (hb : ED X (.BoolOp .Or (b :: rest) pos) tb) : ED X (.BoolOp .Or (a :: b :: rest) pos) (dorv ta tb) := fun F hF => (pe_or (ha F hF) (hb F hF)).imp fun σ H Q => by
  rintro ⟨E, ρ, q, env, h, k⟩
  refine ⟨E, ρ, _, env, h, fun d hd v H1 x1 hv => ?_⟩
  cases d with
  | bl c =>
    refine ⟨c, hv, ?_⟩
    cases c with
    | true =>
      rw [if_pos rfl]
      have hd' : q (.bl true) := by simpa using hd
      exact k _ hd' _ H1 x1 rfl
    | false =>
      rw [if_neg Bool.false_ne_true]
      have hd' : tb ρ q := by simpa using hd
      exact ⟨E, ρ, q, env.step x1, hd', fun d hd v H2 x2 hv => k d hd v H2 (x1.trans x2) hv⟩
  | _ => exact (show False from hd).elim
theorem e_not (ha : ED X a ta) : ED X (.UnaryOp .Not a pos) (dnotv ta) := fun F hF => (pe_not (ha F hF)).imp fun σ H Q => by
  rintro ⟨E, ρ, q, env, h, k⟩
  refine ⟨E, ρ, _, env, h, fun d hd v H1 x1 hv => ?_⟩
  cases d with
  | bl c => exact ⟨c, hv, k _ hd _ H1 x1 rfl⟩
  | _ => exact (show False from hd).elim
def dneg (ta : RE) : RE := fun ρ q => ta ρ fun d => match d with
  | .int i => q (.int (-i))
  | _ => False
theorem e_neg (ha : ED X a ta) : ED X (.UnaryOp .USub a pos) (dneg ta) := fun F hF => (pe_un un_neg (ha F hF)).imp fun σ H Q => by
  rintro ⟨E, ρ, q, env, h, k⟩
  refine ⟨E, ρ, _, env, h, fun d hd v H1 x1 hv => ?_⟩
  cases d with
  | int i => exact ⟨i, hv, k _ hd _ H1 x1 rfl⟩
  | _ => exact (show False from hd).elim
def dif (t : RT) (ta tb : RE) : RE := fun ρ q => t ρ fun c => if c = true then ta ρ q else tb ρ q
theorem e_if (hc : TD X c t) (ha : ED X a ta) (hb : ED X b tb) : ED X (.IfExp c a b pos) (dif t ta tb) := fun F hF => (pe_ifExp (hc F hF) (ha F hF) (hb F hF)).imp fun σ H Q => by
  rintro ⟨E, ρ, q, env, h, k⟩
  refine ⟨E, ρ, _, env, h, fun b hb H1 x1 => ?_⟩
  cases b with
  | true =>
    rw [if_pos rfl] at hb ⊢
    exact ⟨E, ρ, q, env.step x1, hb, fun d hd v H2 x2 hv => k d hd v H2 (x1.trans x2) hv⟩
  | false =>
    rw [if_neg Bool.false_ne_true] at hb ⊢
    exact ⟨E, ρ, q, env.step x1, hb, fun d hd v H2 x2 hv => k d hd v H2 (x1.trans x2) hv⟩

/-! ### lists of arguments -/
/-- data, each whole -/
abbrev RL := Rho → (List D → Prop) → Prop
def TopA (F : Fx) (E : Addr → Prop) (H : Hp) : List D → List V → Prop
  | [], vs => vs = []
  | d :: ds, vs => ∃ v r, vs = v :: r ∧ Top F E H d v ∧ TopA F E H ds r
theorem TopA.ext {F : Fx} {E : Addr → Prop} {H H' : Hp} (e : At F E H) (x : XExt F H H') : ∀ {ds : List D} {vs : List V}, TopA F E H ds vs → TopA F E H' ds vs
  | [], _, h => h
  | d :: ds, _, ⟨v, r, ev, h1, h2⟩ => ⟨v, r, ev, h1.ext e x, TopA.ext e x h2⟩
def liftL (F : Fx) (t : RL) : TA := fun σ H Q => ∃ E ρ q, DEnv F E σ H ρ ∧ t ρ q ∧ ∀ ds, q ds → ∀ vs H', XExt F H H' → DnA F.K E H' ds vs → Q vs H'
def liftLB (F : Fx) (t : RL) : TA := fun σ H Q => ∃ E ρ q, DEnv F E σ H ρ ∧ t ρ q ∧ ∀ ds, q ds → ∀ vs H', XExt F H H' → TopA F E H' ds vs → Q vs H'
def LD (X : Cx) (es : List Expr) (t : RL) : Prop := ∀ F : Fx, F.K = X.K → PA X es (liftL F t)
def LBD (X : Cx) (es : List Expr) (t : RL) : Prop := ∀ F : Fx, F.K = X.K → PA X es (liftLB F t)
def lnil : RL := fun _ q => q []
def lcons (t : RE) (r : RL) : RL := fun ρ q => t ρ fun d => r ρ fun ds => q (d :: ds)
variable {tl : RL}
theorem l_nil : LD X [] lnil := fun F hF => pa_nil.imp fun σ H Q => by
  rintro ⟨E, ρ, q, env, h, k⟩
  exact k _ h _ H (XExt.refl env.so) rfl
theorem l_cons (ha : ED X e ta) (hr : LD X es tl) (hs : starEach (e :: es) X.env = (false, eval e X.env) :: starEach es X.env := by rfl) : LD X (e :: es) (lcons ta tl) := fun F hF => (pa_cons (ha F hF) (hr F hF) hs).imp fun σ H Q => by
  rintro ⟨E, ρ, q, env, h, k⟩
  refine ⟨E, ρ, _, env, h, fun d hd v H1 x1 hv => ?_⟩
  have e1 := env.step x1
  exact ⟨E, ρ, _, e1, hd, fun ds hds vs H2 x2 hvs => k _ hds _ H2 (x1.trans x2) ⟨v, vs, rfl, e1.dn x2 hv, hvs⟩⟩
theorem lb_nil : LBD X [] lnil := fun F hF => pa_nil.imp fun σ H Q => by
  rintro ⟨E, ρ, q, env, h, k⟩
  exact k _ h _ H (XExt.refl env.so) rfl
theorem lb_cons (ha : BD X e ta) (hr : LBD X es tl) (hs : starEach (e :: es) X.env = (false, eval e X.env) :: starEach es X.env := by rfl) : LBD X (e :: es) (lcons ta tl) := fun F hF => (pa_cons (ha F hF) (hr F hF) hs).imp fun σ H Q => by
  rintro ⟨E, ρ, q, env, h, k⟩
  refine ⟨E, ρ, _, env, h, fun d hd v H1 x1 hv => ?_⟩
  have e1 := env.step x1
  exact ⟨E, ρ, _, e1, hd, fun ds hds vs H2 x2 hvs => k _ hds _ H2 (x1.trans x2) ⟨v, vs, rfl, hv.ext e1.at_ x2, hvs⟩⟩
def dtup (t : RL) : RE := fun ρ q => t ρ fun ds => ds.length ≤ sizeLine ∧ q (.tup ds)
def dlst (t : RL) : RE := fun ρ q => t ρ fun ds => ds.length ≤ sizeLine ∧ q (.lst ds)
theorem e_tup {x1} (h : LD X es tl) : ED X (.Tuple es x1 pos) (dtup tl) := fun F hF => (pe_tup (h F hF)).imp fun σ H Q => by
  rintro ⟨E, ρ, q, env, h, k⟩
  refine ⟨E, ρ, _, env, h, fun ds hd vs H1 x1 hv => ⟨by rw [hv.len]; exact hd.1, fun p hp => ?_⟩⟩
  have e1 := env.step x1
  exact k _ hd.2 _ _ (x1.trans (XExt.new e1.so hp)) (e1.at_.tup hp hv)
theorem e_lst (h : LD X es tl) : ED X (.List es pos) (dlst tl) := fun F hF => (pe_lst (h F hF)).imp fun σ H Q => by
  rintro ⟨E, ρ, q, env, h, k⟩
  refine ⟨E, ρ, _, env, h, fun ds hd vs H1 x1 hv => ⟨by rw [hv.len]; exact hd.1, fun p hp => ?_⟩⟩
  have e1 := env.step x1
  exact k _ hd.2 _ _ (x1.trans (XExt.new e1.so hp)) (e1.at_.lst hp hv)

/-! ### calls of built-ins -/
abbrev RCD := List D → (D → Prop) → Prop
def CallD (X : Cx) (f : Value) (r : RCD) : Prop := ∃ r' : List V → Hp → VK → Prop, CallR X f r' ∧ ∀ (F : Fx) (E : Addr → Prop) (H : Hp) (ds : List D) (vs : List V) (q : D → Prop) (Q : VK), F.K = X.K → At F E H → TopA F E H ds vs → r ds q →
  (∀ d, q d → ∀ w H', XExt F H H' → Dn F.K E H' d w → Q w H') → r' vs H Q
def dcall (r : RCD) (t : RL) : RE := fun ρ q => t ρ fun ds => r ds q
theorem call_ {F : Fx} {r : RCD} {r' : List V → Hp → VK → Prop} (hF : F.K = X.K) (hr : ∀ (F : Fx) (E : Addr → Prop) (H : Hp) (ds : List D) (vs : List V) (q : D → Prop) (Q : VK), F.K = X.K → At F E H → TopA F E H ds vs → r ds q →
    (∀ d, q d → ∀ w H', XExt F H H' → Dn F.K E H' d w → Q w H') → r' vs H Q) (σ : St) (H : Hp) (Q : VK) (h : liftE F (dcall r tl) σ H Q) : tCB r' (liftLB F tl) σ H Q := by
  obtain ⟨E, ρ, q, env, h, k⟩ := h
  exact ⟨E, ρ, _, env, h, fun ds hd vs H1 x1 hv => hr F E H1 ds vs q Q hF (env.step x1).at_ hv hd fun d hd w H' x2 hw => k d hd w H' (x1.trans x2) hw⟩
theorem e_callB {id : String} {r : RCD} {x : Str} {p : Pos} (hc : CallD X (.builtin id) r) (hg : Gl X x) (hm : X.mg x = none) (hv : bootBuiltins x = some (.builtin id)) (ha : LBD X (e :: es) tl) (hn : x ≠ "__name__" := by decide) (hdb : (x == ("__debug__" : Str)) = false := by decide)
    (he : starEach (e :: es) X.env = (false, eval e X.env) :: starEach es X.env := by rfl) (hpl : (backTo pos (starEach es X.env)).any (·.1) = false := by rfl) : ED X (.Call (.Name x p) (e :: es) [] pos) (dcall r tl) := fun F hF => by
  obtain ⟨r', h1, h2⟩ := hc
  exact (pe_callB h1 hg hm hv (ha F hF) hn hdb he hpl).imp (call_ hF h2)
theorem e_callTy {id : String} {r : RCD} {x : Str} {p : Pos} (hc : CallD X (.type id) r) (hg : Gl X x) (hm : X.mg x = none) (hv : bootBuiltins x = some (.type id)) (ha : LBD X (e :: es) tl) (hn : x ≠ "__name__" := by decide) (hdb : (x == ("__debug__" : Str)) = false := by decide)
    (he : starEach (e :: es) X.env = (false, eval e X.env) :: starEach es X.env := by rfl) (hpl : (backTo pos (starEach es X.env)).any (·.1) = false := by rfl) : ED X (.Call (.Name x p) (e :: es) [] pos) (dcall r tl) := fun F hF => by
  obtain ⟨r', h1, h2⟩ := hc
  exact (pe_callTy h1 hg hm hv (ha F hF) hn hdb he hpl).imp (call_ hF h2)
theorem TopA.one {F : Fx} {E : Addr → Prop} {H : Hp} {d : D} {vs : List V} (h : TopA F E H [d] vs) : ∃ v, vs = [v] ∧ Top F E H d v := by
  obtain ⟨v, r, rfl, h1, h2⟩ := h
  rw [show r = [] from h2]
  exact ⟨v, rfl, h1⟩
/-- len -/
def rLen : RCD := fun ds q => match ds with
  | [.tup xs] => q (.int xs.length)
  | [.lst xs] => q (.int xs.length)
  | [.str x] => x.length ≤ sizeLine ∧ q (.int x.length)
  | _ => False
theorem c_len : CallD X (.builtin "len") rLen := by
  refine ⟨_, call_len, fun F E H ds vs q Q hF at_ hv h k => ?_⟩
  unfold rLen at h
  split at h
  · obtain ⟨v, rfl, a, ys, rfl, t, g⟩ := hv.one
    refine ⟨_, ys.length, rfl, .inr ⟨ys, by rw [← hF]; exact t.sq, rfl⟩, k _ h _ H (XExt.refl at_.so) (by rw [g.len]; rfl)⟩
  · obtain ⟨v, rfl, a, ys, rfl, t, g⟩ := hv.one
    exact ⟨_, ys.length, rfl, .inl ⟨ys, t.sq, rfl⟩, k _ h _ H (XExt.refl at_.so) (by rw [g.len]; rfl)⟩
  · rename_i x
    obtain ⟨v, rfl, h1⟩ := hv.one
    have e1 : v = .str x := h1
    subst e1
    exact ⟨_, x.length, rfl, ⟨h.1, rfl⟩, k _ h.2 _ H (XExt.refl at_.so) rfl⟩
  · exact h.elim
/-- int(n) -/
def rInt : RCD := fun ds q => match ds with
  | [.int i] => q (.int i)
  | _ => False
theorem c_int : CallD X (.type "int") rInt := by
  refine ⟨_, call_int1, fun F E H ds vs q Q hF at_ hv h k => ?_⟩
  unfold rInt at h
  split at h
  · rename_i i
    obtain ⟨v, rfl, h1⟩ := hv.one
    have e1 : v = .int i := h1
    subst e1
    exact .inl ⟨i, rfl, k _ h _ H (XExt.refl at_.so) rfl⟩
  · exact h.elim
/-- tuple(x), list(x) -/
def rTuple : RCD := fun ds q => match ds with
  | [.lst xs] => q (.tup xs)
  | [.tup xs] => q (.tup xs)
  | _ => False
def rList : RCD := fun ds q => match ds with
  | [.lst xs] => q (.lst xs)
  | [.tup xs] => q (.lst xs)
  | _ => False
theorem c_tuple : CallD X (.type "tuple") rTuple := by
  refine ⟨_, call_tuple_of, fun F E H ds vs q Q hF at_ hv h k => ?_⟩
  unfold rTuple at h
  split at h
  · obtain ⟨v, rfl, a, ys, rfl, t, g⟩ := hv.one
    exact ⟨a, ys, rfl, .inl ⟨t.sq, fun p hp => k _ h _ _ (XExt.new at_.so hp) (at_.tup hp g)⟩⟩
  · obtain ⟨v, rfl, a, ys, rfl, t, g⟩ := hv.one
    exact ⟨a, ys, rfl, .inr ⟨by rw [← hF]; exact t.sq, k _ h _ _ (XExt.refl at_.so) ⟨a, ys, rfl, t, g⟩⟩⟩
  · exact h.elim
theorem c_list : CallD X (.type "list") rList := by
  refine ⟨_, call_list_of, fun F E H ds vs q Q hF at_ hv h k => ?_⟩
  unfold rList at h
  split at h
  · obtain ⟨v, rfl, a, ys, rfl, t, g⟩ := hv.one
    exact ⟨a, ys, rfl, .inl t.sq, fun p hp => k _ h _ _ (XExt.new at_.so hp) (at_.lst hp g)⟩
  · obtain ⟨v, rfl, a, ys, rfl, t, g⟩ := hv.one
    exact ⟨a, ys, rfl, .inr (by rw [← hF]; exact t.sq), fun p hp => k _ h _ _ (XExt.new at_.so hp) (at_.lst hp g)⟩
  · exact h.elim
/-- max(a, b), min(a, b) of ints -/
def rMax2 : RCD := fun ds q => match ds with
  | [.int i, .int j] => q (.int (if j > i then j else i))
  | _ => False
def rMin2 : RCD := fun ds q => match ds with
  | [.int i, .int j] => q (.int (if j < i then j else i))
  | _ => False
theorem ints2 {ds : List D} {P : Int → Int → Prop} (h : match ds with | [.int i, .int j] => P i j | _ => False) : ∃ i j, ds = [.int i, .int j] ∧ P i j := by
  split at h
  · exact ⟨_, _, rfl, h⟩
  · exact h.elim
theorem c_max2 (hc : X.calm = true) : CallD X (.builtin "max") rMax2 := by
  refine ⟨_, call_max2 hc, fun F E H ds vs q Q hF at_ hv h k => ?_⟩
  obtain ⟨i, j, rfl, h⟩ := ints2 h
  obtain ⟨v, r, rfl, h1, v2, r2, rfl, h3, h4⟩ := hv
  rw [show v = .int i from h1, show v2 = .int j from h3, show r2 = [] from h4]
  exact ⟨i, j, rfl, k _ h _ H (XExt.refl at_.so) rfl⟩
theorem c_min2 (hc : X.calm = true) : CallD X (.builtin "min") rMin2 := by
  refine ⟨_, call_min2 hc, fun F E H ds vs q Q hF at_ hv h k => ?_⟩
  obtain ⟨i, j, rfl, h⟩ := ints2 h
  obtain ⟨v, r, rfl, h1, v2, r2, rfl, h3, h4⟩ := hv
  rw [show v = .int i from h1, show v2 = .int j from h3, show r2 = [] from h4]
  exact ⟨i, j, rfl, k _ h _ H (XExt.refl at_.so) rfl⟩
/-- all, any of a list of bools -/
def bools : List D → Option (List Bool)
  | [] => some []
  | .bl b :: r => (bools r).map (b :: ·)
  | _ => none
def rAll : RCD := fun ds q => match ds with
  | [.lst xs] => (match bools xs with
    | some bs => q (.bl (bs.all id))
    | none => False)
  | _ => False
def rAny : RCD := fun ds q => match ds with
  | [.lst xs] => (match bools xs with
    | some bs => q (.bl (bs.any id))
    | none => False)
  | _ => False
theorem bools_of {K : PySem.W.Frag} {E : Addr → Prop} {H : Hp} : ∀ {ds : List D} {xs : List V} {bs : List Bool}, DnA K E H ds xs → bools ds = some bs → xs = bs.map V.bl
  | [], _, _, h, e => by cases e; exact h
  | d :: ds, _, bs, ⟨x, r, ex, h1, h2⟩, e => by
    subst ex
    cases d with
    | bl b =>
      cases q : bools ds with
      | none => rw [bools, q] at e; cases e
      | some cs =>
        rw [bools, q] at e
        cases e
        rw [bools_of h2 q, show x = .bl b from h1]; rfl
    | _ => cases e
theorem c_all (hc : X.calm = true) : CallD X (.builtin "all") rAll := by
  refine ⟨_, cr_all hc, fun F E H ds vs q Q hF at_ hv h k => ?_⟩
  unfold rAll at h
  split at h
  · split at h
    · rename_i bs eb
      obtain ⟨v, rfl, a, ys, rfl, t, g⟩ := hv.one
      have := bools_of g eb
      subst this
      exact ⟨a, bs, rfl, t.sq, k _ h _ H (XExt.refl at_.so) rfl⟩
    · exact h.elim
  · exact h.elim
theorem c_any (hc : X.calm = true) : CallD X (.builtin "any") rAny := by
  refine ⟨_, cr_any hc, fun F E H ds vs q Q hF at_ hv h k => ?_⟩
  unfold rAny at h
  split at h
  · split at h
    · rename_i bs eb
      obtain ⟨v, rfl, a, ys, rfl, t, g⟩ := hv.one
      have := bools_of g eb
      subst this
      exact ⟨a, bs, rfl, t.sq, k _ h _ H (XExt.refl at_.so) rfl⟩
    · exact h.elim
  · exact h.elim
end
end DL

set_option Elab.async false
set_option linter.all false
set_option maxRecDepth 100000
set_option maxHeartbeats 4000000
namespace DL
open PySem L2
/-! ### isinstance -/
def tyD : D → String
  | .non => "NoneType"
  | .bl _ => "bool"
  | .int _ => "int"
  | .str _ => "str"
  | .tup _ => "tuple"
  | .lst _ => "list"
  | .obj _ _ _ => "object"
  | .dct _ _ => "dict"
def isaS (a b : String) : Bool := a == b || (a == "bool" && b == "int")
def D.plain : D → Bool
  | .obj _ _ _ => false
  | .dct _ _ => false
  | _ => true
theorem kit_all : ∀ a ∈ ["NoneType", "bool", "int", "str", "tuple", "list"], ∀ b ∈ ["bool", "int", "str", "tuple", "list"], kitB a b = some (isaS a b) := by decide +kernel
theorem tyD_mem {d : D} (h : d.plain = true) : tyD d ∈ ["NoneType", "bool", "int", "str", "tuple", "list"] := by
  cases d <;> first
    | exact absurd (show false = true from h) Bool.false_ne_true
    | simp [tyD]
theorem Top.ty {F : Fx} {E : Addr → Prop} {H : Hp} {d : D} {v : V} (hp : d.plain = true) (h : Top F E H d v) : TyX F.K H v (.type (tyD d)) := by
  cases d with
  | non => rw [show v = .non from h]; exact .base .non
  | bl b => rw [show v = .bl b from h]; exact .base (.bl b)
  | int i => rw [show v = .int i from h]; exact .base (.int i)
  | str x => rw [show v = .str x from h]; exact .base (.str x)
  | tup xs =>
    obtain ⟨a, ys, rfl, t, g⟩ := h
    rcases t with t | ⟨o, its, n, h1, h2, h3, h4, h5⟩
    · exact .base (.tup t.2)
    · exact .kTuple h1 h2
  | lst xs => obtain ⟨a, ys, rfl, t, g⟩ := h; exact .base (.lst t.2)
  | obj c ns xs => exact absurd (show false = true from hp) Bool.false_ne_true
  | dct ks vs => exact absurd (show false = true from hp) Bool.false_ne_true
section
variable {X : Cx} {e a b c : Expr} {ta tb tc : RE} {pos p p' : Pos} {es : List Expr}
/-- isinstance(x, T), T a built-in type -/
def disi (T : String) (t : RE) : RE := fun ρ q => t ρ fun d => d.plain = true ∧ q (.bl (isaS (tyD d) T))
theorem e_isi {T : String} {x : Str} (hT : T ∈ ["bool", "int", "str", "tuple", "list"]) (hg : Gl X "isinstance") (hm : X.mg "isinstance" = none) (hgT : Gl X x) (hmT : X.mg x = none) (hvT : bootBuiltins x = some (.type T)) (ha : BD X e ta)
    (hn : x ≠ "__name__" := by decide) (hdb : (x == ("__debug__" : Str)) = false := by decide)
    (h1 : starEach [e, .Name x p'] X.env = (false, eval e X.env) :: starEach [.Name x p'] X.env := by rfl) (h2 : starEach [.Name x p'] X.env = (false, eval (.Name x p') X.env) :: starEach [] X.env := by rfl)
    (hpl : (backTo pos (starEach [.Name x p'] X.env)).any (·.1) = false := by rfl) :
    ED X (.Call (.Name "isinstance" p) [e, .Name x p'] [] pos) (disi T ta) := fun F hF => by
  refine (pe_callB call_isi hg hm PyProof.Rows.boot_isinstance (pa_cons (ha F hF) (pa_cons (pe_bltn (v := .ty T) hgT hmT hvT rfl hn hdb) pa_nil h2) h1) (by decide) (by decide) h1 hpl).imp fun σ H Q => ?_
  rintro ⟨E, ρ, q, env, h, k⟩
  refine ⟨E, ρ, _, env, h, fun d hd v H1 x1 hv => ?_⟩
  have ty : TyX X.K H1 v (.type (tyD d)) := hF ▸ hv.ty hd.1
  exact ⟨v, .ty T, _, _, _, rfl, .ty T, ty, kit_ty (kit_all _ (tyD_mem hd.1) _ hT), k _ hd.2 _ H1 x1 rfl⟩
/-- isinstance(x, (T, U)) -/
def disi2 (T U : String) (t : RE) : RE := fun ρ q => t ρ fun d => d.plain = true ∧ q (.bl (isaS (tyD d) T || isaS (tyD d) U))
theorem e_isi2 {T U : String} {x y : Str} {p2 p3 p4 : Pos} {kt} (hT : T ∈ ["bool", "int", "str", "tuple", "list"]) (hU : U ∈ ["bool", "int", "str", "tuple", "list"]) (hg : Gl X "isinstance") (hm : X.mg "isinstance" = none)
    (hgT : Gl X x) (hmT : X.mg x = none) (hvT : bootBuiltins x = some (.type T)) (hgU : Gl X y) (hmU : X.mg y = none) (hvU : bootBuiltins y = some (.type U)) (ha : BD X e ta)
    (hn : x ≠ "__name__" := by decide) (hdb : (x == ("__debug__" : Str)) = false := by decide) (hn2 : y ≠ "__name__" := by decide) (hdb2 : (y == ("__debug__" : Str)) = false := by decide)
    (h1 : starEach [e, .Tuple [.Name x p2, .Name y p3] kt p4] X.env = (false, eval e X.env) :: starEach [.Tuple [.Name x p2, .Name y p3] kt p4] X.env := by rfl)
    (h2 : starEach [.Tuple [.Name x p2, .Name y p3] kt p4] X.env = (false, eval (.Tuple [.Name x p2, .Name y p3] kt p4) X.env) :: starEach [] X.env := by rfl)
    (h3 : starEach [.Name x p2, .Name y p3] X.env = (false, eval (.Name x p2) X.env) :: starEach [.Name y p3] X.env := by rfl)
    (h4 : starEach [.Name y p3] X.env = (false, eval (.Name y p3) X.env) :: starEach [] X.env := by rfl)
    (hpl : (backTo pos (starEach [.Tuple [.Name x p2, .Name y p3] kt p4] X.env)).any (·.1) = false := by rfl) :
    ED X (.Call (.Name "isinstance" p) [e, .Tuple [.Name x p2, .Name y p3] kt p4] [] pos) (disi2 T U ta) := fun F hF => by
  refine (pe_callB call_isiT hg hm PyProof.Rows.boot_isinstance (pa_cons (ha F hF) (pa_cons (pe_tup (pa_cons (pe_bltn (v := .ty T) hgT hmT hvT rfl hn hdb) (pa_cons (pe_bltn (v := .ty U) hgU hmU hvU rfl hn2 hdb2) pa_nil h4) h3)) pa_nil h2) h1) (by decide) (by decide) h1 hpl).imp fun σ H Q => ?_
  rintro ⟨E, ρ, q, env, h, k⟩
  refine ⟨E, ρ, _, env, h, fun d hd v H1 x1 hv => ⟨(by show 2 ≤ sizeLine; decide), fun tp htp => ?_⟩⟩
  have e1 := env.step x1
  have x2 : XExt F H1 (upd H1 tp (.tup [.ty T, .ty U])) := XExt.new e1.so htp
  have ty : TyX X.K (upd H1 tp (.tup [.ty T, .ty U])) v (.type (tyD d)) := hF ▸ (hv.ext e1.at_ x2).ty hd.1
  refine ⟨v, tp, [.ty T, .ty U], _, [.type T, .type U], _, rfl, upd_same, .cons (.ty T) (.cons (.ty U) .nil), ty, ?_, k _ hd.2 _ _ (x1.trans x2) rfl⟩
  refine kitAny_cons (kit_ty (kit_all _ (tyD_mem hd.1) _ hT)) (fun hb => ?_) (fun hb => by rw [hb]; rfl)
  refine kitAny_cons (kit_ty (kit_all _ (tyD_mem hd.1) _ hU)) (fun hc => ?_) (fun hc => by rw [hb, hc]; rfl)
  rw [hb, hc]
  exact kitAny_nil

/-! ### calls of the text's own defs -/
/-- a def's meaning over pure data -/
abbrev RF := List Sl → (D → Prop) → Prop
def spD (K : PySem.W.Frag) (n : Nat) (tf : RF) : Sp := fun vs H Q _ => ∃ (F : Fx) (ss : List Sl) (q : D → Prop), F.K = K ∧ F.H0 = H ∧ F.held = [] ∧ (∀ b, F.W b → F.B b) ∧ (∀ b, F.B b → ∃ o, H b = some o) ∧ F.SO H ∧ vs.length = n ∧ ArgsOk F F.B H vs ss ∧ tf ss q ∧
  ∀ d, q d → ∀ v H', XExt F H H' → Dn F.K F.B H' d v → Q v H'
def anil : RA := fun _ q => q []
def acons (t : RE) (r : RA) : RA := fun ρ q => t ρ fun d => r ρ fun ss => q (.im d :: ss)
def asrc (i : Nat) (r : RA) : RA := fun ρ q => match ρ[i]? with
  | some (some .src) => r ρ fun ss => q (.src :: ss)
  | _ => False
variable {tr : RA}
theorem a_nil : AD X [] anil := fun F hF => pa_nil.imp fun σ H Q => by
  rintro ⟨E, ρ, q, env, h, k⟩
  exact k _ h _ H (XExt.refl env.so) trivial
theorem a_cons (ha : ED X e ta) (hr : AD X es tr) (hs : starEach (e :: es) X.env = (false, eval e X.env) :: starEach es X.env := by rfl) : AD X (e :: es) (acons ta tr) := fun F hF => (pa_cons (ha F hF) (hr F hF) hs).imp fun σ H Q => by
  rintro ⟨E, ρ, q, env, h, k⟩
  refine ⟨E, ρ, _, env, h, fun d hd v H1 x1 hv => ?_⟩
  have e1 := env.step x1
  exact ⟨E, ρ, _, e1, hd, fun ds hds vs H2 x2 hvs => k _ hds _ H2 (x1.trans x2) ⟨e1.dn x2 hv, hvs⟩⟩
theorem a_src {i : Nat} (ha : PE X e (tVar i)) (hr : AD X es tr) (hs : starEach (e :: es) X.env = (false, eval e X.env) :: starEach es X.env := by rfl) : AD X (e :: es) (asrc i tr) := fun F hF => (pa_cons ha (hr F hF) hs).imp fun σ H Q => by
  rintro ⟨E, ρ, q, env, h, k⟩
  unfold asrc at h
  split at h
  · rename_i he
    obtain ⟨v, h1, a, c, h2, h3⟩ := env.sl i _ he
    exact ⟨v, h1, E, ρ, _, env, h, fun ds hds vs H2 x2 hvs => k _ hds _ H2 x2 ⟨⟨a, c, h2, h3⟩, hvs⟩⟩
  · exact h.elim
def dcallf (tf : RF) (t : RA) : RE := fun ρ q => t ρ fun ss => tf ss q
theorem ArgsOk.len {F : Fx} {E : Addr → Prop} {H : Hp} : ∀ {vs : List V} {ss : List Sl}, ArgsOk F E H vs ss → vs.length = ss.length
  | [], [], _ => rfl
  | _ :: vs, _ :: ss, h => by rw [List.length_cons, List.length_cons, ArgsOk.len h.2]
  | [], _ :: _, h => (show False from h).elim
  | _ :: _, [], h => (show False from h).elim
theorem args_to {F G : Fx} {E : Addr → Prop} {H : Hp} (hK : G.K = F.K) (hs : G.src = F.src) : ∀ {vs : List V} {ss : List Sl}, ArgsOk F E H vs ss → ArgsOk G E H vs ss
  | [], [], _ => trivial
  | v :: vs, s :: ss, h => by
    refine ⟨?_, args_to hK hs h.2⟩
    cases s with
    | im d =>
      have h1 : Dn F.K E H d v := h.1
      show Dn G.K E H d v
      rw [hK]; exact h1
    | ml ds => exact h.1
    | md ks vs => exact h.1
    | src => obtain ⟨a, c, h1, h2⟩ := h.1; exact ⟨a, c, hs ▸ h1, h2⟩
  | [], _ :: _, h => (show False from h).elim
  | _ :: _, [], h => (show False from h).elim
theorem callf_ {F : Fx} {tf : RF} {n : Nat} {K : PySem.W.Frag} (hF : F.K = K) (hn : ∀ ss q, tf ss q → ss.length = n) (σ : St) (H : Hp) (Q : VK) (h : liftE F (dcallf tf tr) σ H Q) : tCall (spD K n tf) [] E0 (liftA F tr) σ H Q := by
  obtain ⟨E, ρ, q, env, h, k⟩ := h
  refine ⟨E, ρ, _, env, h, fun ss hss vs H1 x1 hvs => ?_⟩
  have e1 := env.step x1
  show spD K n tf (vs ++ []) H1 Q E0
  rw [List.append_nil]
  refine ⟨⟨F.K, E, H1, F.src, []⟩, ss, q, hF, rfl, rfl, fun b hb => e1.we hb, e1.live, e1.so, ?_, args_to (F := F) (G := ⟨F.K, E, H1, F.src, []⟩) (E := E) rfl rfl hvs, hss, fun d hd v H' x2 hv => k d hd v H' (x1.trans x2) hv⟩
  rw [hvs.len]
  exact hn _ _ hss
theorem e_call {k : Nat} {f : Addr} {fd : FuncData} {ps : List Str} {tf : RF} {x : Str} (G : FnOk X.prog X.w X.K X.mg X.base CX0 k f fd ps (spD X.K ps.length tf)) (hn : ∀ ss q, tf ss q → ss.length = ps.length) (hr : Room k X.A) (hg : Gl X x) (hm : X.mg x = some (.ref f)) (hk : PySem.W.keepIn X.K (.ref f) = true)
    (hb : Binds X.K fd ps []) (ha : AD X (e :: es) tr) (hdb : (x == ("__debug__" : Str)) = false := by decide) (he : starEach (e :: es) X.env = (false, eval e X.env) :: starEach es X.env := by rfl) (hpl : (backTo pos (starEach es X.env)).any (·.1) = false := by rfl) :
    ED X (.Call (.Name x p) (e :: es) [] pos) (dcallf tf tr) := fun F hF =>
  (pe_call G hr hg hm hk hb .nil pass0 (ha F hF) hdb he hpl).imp (callf_ hF hn)

/-! ### an attribute of an instance -/
def dfld (C : Addr) (f : Str) (t : RE) : RE := fun ρ q => t ρ fun d => match d with
  | .obj c ns ds => c = C ∧ (match (ns.zip ds).lookup f with
    | some d => q d
    | none => False)
  | _ => False
theorem lookup_dn {K : PySem.W.Frag} {E : Addr → Prop} {H : Hp} {f : Str} {d : D} : ∀ {fs : List (Str × V)} {ds : List D}, DnA K E H ds (fs.map (·.2)) → ((fs.map (·.1)).zip ds).lookup f = some d → ∃ v, fs.lookup f = some v ∧ Dn K E H d v
  | [], _, _, e => by simp at e
  | (g, x) :: fs, [], h, e => by
    have := h.len
    simp at this
  | (g, x) :: fs, c :: ds, ⟨y, r, ey, h1, h2⟩, e => by
    rw [List.map_cons] at ey
    cases ey
    rw [List.map_cons, List.zip_cons_cons, List.lookup_cons] at e
    rw [List.lookup_cons]
    cases hb : (f == g) with
    | true =>
      rw [hb] at e
      have e' : c = d := Option.some.inj e
      subst e'
      exact ⟨x, rfl, h1⟩
    | false =>
      rw [hb] at e
      exact lookup_dn h2 e
theorem e_fld {f : Str} {C : Addr} (cl : Cls X.K C) (na : NoAttr X.K C f) (he : ED X e ta)
    (hb : attributeBase e f X.env (eval e X.env) = eval e X.env := by rfl) : ED X (.Attribute e f pos) (dfld C f ta) := fun F hF => (pe_fld (he F hF) hb).imp fun σ H Q => by
  rintro ⟨E, ρ, q, env, h, k⟩
  refine ⟨E, ρ, _, env, h, fun d hd v H1 x1 hv => ?_⟩
  split at hd
  · rename_i c ns ds
    obtain ⟨hcc, hd⟩ := hd
    obtain ⟨a, dx, fs, rfl, nE, hH, em, g⟩ := hv
    subst hcc
    subst em
    split at hd
    · rename_i d' el
      obtain ⟨w, h1, h2⟩ := lookup_dn g el
      exact ⟨a, c, dx, fs, w, rfl, hH, cl, na, h1, k _ hd _ H1 x1 h2⟩
    · exact hd.elim
  · exact hd.elim
end
end DL

set_option Elab.async false
set_option linter.all false
set_option maxRecDepth 100000
set_option maxHeartbeats 4000000
namespace DL
open PySem L2
section
variable {F : Fx} {E : Addr → Prop} {σ : St} {H H' : Hp} {ρ : Rho}
theorem set_get {α : Type} {l : List α} {i j : Nat} {a b : α} (h : (l.set i a)[j]? = some b) : (j = i ∧ b = a ∧ i < l.length) ∨ (j ≠ i ∧ l[j]? = some b) := by
  by_cases e : j = i
  · subst e
    by_cases hl : j < l.length
    · rw [List.getElem?_set_self hl] at h; cases h; exact .inl ⟨rfl, rfl, hl⟩
    · rw [List.getElem?_eq_none (by simpa using hl)] at h; cases h
  · rw [List.getElem?_set_ne (Ne.symm e)] at h; exact .inr ⟨e, h⟩
theorem set_at {α : Type} {l : List α} {i : Nat} (a : α) (h : i < l.length) : (l.set i a)[i]? = some a := List.getElem?_set_self h
/-- shared data into a slot -/
theorem DEnv.set (e : DEnv F E σ H ρ) {i : Nat} {d : D} {v : V} (h : Dn F.K E H d v) : DEnv F E (σ.set i (some v)) H (ρ.set i (some (.im d))) where
  fr := e.fr
  wb := e.wb
  sub := e.sub
  live := e.live
  so := e.so
  len := by rw [List.length_set, List.length_set]; exact e.len
  hl := e.hl
  sl := fun j s hs => by
    rcases set_get hs with ⟨rfl, es, hl⟩ | ⟨hj, hs⟩
    · cases es
      exact ⟨v, set_at _ (by rw [e.len]; exact hl), h⟩
    · obtain ⟨w, h1, h2⟩ := e.sl j s hs
      exact ⟨w, by rw [List.getElem?_set_ne (Ne.symm hj)]; exact h1, h2⟩
  inj := fun j k s t w hj hk os ot wj wk => by
    rcases set_get hj with ⟨rfl, es, hl⟩ | ⟨nj, hj⟩
    · cases es; exact absurd (show false = true from os) Bool.false_ne_true
    rcases set_get hk with ⟨rfl, es, hl⟩ | ⟨nk, hk⟩
    · cases es; exact absurd (show false = true from ot) Bool.false_ne_true
    rw [List.getElem?_set_ne (Ne.symm nj)] at wj
    rw [List.getElem?_set_ne (Ne.symm nk)] at wk
    exact e.inj j k s t w hj hk os ot wj wk
/-- E with one more -/
def plus (E : Addr → Prop) (p : Addr) : Addr → Prop := fun b => E b ∨ b = p
/-- a new list is shut -/
theorem DEnv.shut (e : DEnv F E σ H ρ) (x : XExt F H H') {p : Addr} (hp : H p = none) (hp' : ∃ o, H' p = some o) : DEnv F (plus E p) σ H' ρ := by
  have e1 := e.step x
  have more : ∀ b, plus E p b → E b ∨ H b = none := fun b hb => hb.elim .inl fun z => .inr (z ▸ hp)
  have fe : FExt (plus E p) H H' := x.1.weaken fun b w => .inl (e.we w)
  exact {
    fr := e1.fr
    wb := e.wb
    sub := fun b hb => .inl (e.sub b hb)
    live := fun b hb => hb.elim (e1.live b) fun z => z ▸ hp'
    so := e1.so
    len := e.len
    hl := fun q hq => Dn.ext fe _ _ (Dn.more more _ _ (e.hl q hq))
    sl := fun i s hs => by
      obtain ⟨v, h1, h2⟩ := e.sl i s hs
      refine ⟨v, h1, ?_⟩
      cases s with
      | im d => exact Dn.ext fe _ _ (Dn.more more _ _ h2)
      | ml ds =>
        obtain ⟨c, xs, ev, hE, hB, h0, hc, ha⟩ := h2
        exact ⟨c, xs, ev, .inl hE, hB, h0, x.1 c _ hc (fun w => hB (e.wb c w)), DnA.ext fe _ _ (DnA.more more _ _ ha)⟩
      | md ks vs =>
        obtain ⟨c, us, ws, ev, hE, hB, h0, hc, ha, hb⟩ := h2
        exact ⟨c, us, ws, ev, .inl hE, hB, h0, hc.at (fun o q => x.1 c o q (fun w => hB (e.wb c w))), DnA.ext fe _ _ (DnA.more more _ _ ha), DnA.ext fe _ _ (DnA.more more _ _ hb)⟩
      | src => exact h2
    inj := e.inj }
/-- what stands in an own slot, at p -/
def OwnAt (F : Fx) (E : Addr → Prop) (H : Hp) (p : Addr) : Sl → Prop
  | .ml ds => ∃ xs, H p = some (.lst xs) ∧ DnA F.K E H ds xs
  | .md ks vs => ∃ us ws, DcM H p ks us ws ∧ DnA F.K E H ks us ∧ DnA F.K E H vs ws
  | _ => False
theorem OwnAt.own {F : Fx} {E : Addr → Prop} {H : Hp} {p : Addr} {s : Sl} (h : OwnAt F E H p s) : s.own = true := by
  cases s with
  | ml ds => rfl
  | md ks vs => rfl
  | im d => exact (show False from h).elim
  | src => exact (show False from h).elim
theorem OwnAt.ok {F : Fx} {E : Addr → Prop} {H : Hp} {p : Addr} {s : Sl} (h : OwnAt F E H p s) (hE : E p) (hB : ¬ F.B p) (h0 : F.H0 p = none) : SlOk F E H (.ref p) s := by
  cases s with
  | ml ds => obtain ⟨xs, h1, h2⟩ := h; exact ⟨p, xs, rfl, hE, hB, h0, h1, h2⟩
  | md ks vs => obtain ⟨us, ws, h1, h2, h3⟩ := h; exact ⟨p, us, ws, rfl, hE, hB, h0, h1, h2, h3⟩
  | im d => exact (show False from h).elim
  | src => exact (show False from h).elim
theorem SlOk.owns {F : Fx} {E : Addr → Prop} {H : Hp} {v : V} {s : Sl} (h : SlOk F E H v s) (o : s.own = true) : ∃ p, v = .ref p ∧ E p ∧ ¬ F.B p ∧ F.H0 p = none ∧ OwnAt F E H p s := by
  cases s with
  | ml ds => obtain ⟨p, xs, ev, hE, hB, h0, hp, ha⟩ := h; exact ⟨p, ev, hE, hB, h0, xs, hp, ha⟩
  | md ks vs => obtain ⟨p, us, ws, ev, hE, hB, h0, hp, ha⟩ := h; exact ⟨p, ev, hE, hB, h0, us, ws, hp, ha⟩
  | im d => cases o
  | src => cases o
/-- .. and put into a slot -/
theorem DEnv.ownS (e : DEnv F E σ H ρ) {E' : Addr → Prop} (e' : DEnv F E' σ H' ρ) {i : Nat} {s0 : Sl} {p : Addr} (hE : E' p) (nE : ¬ E p) (h0 : F.H0 p = none) (ha : OwnAt F E' H' p s0) :
    DEnv F E' (σ.set i (some (.ref p))) H' (ρ.set i (some s0)) where
  fr := e'.fr
  wb := e'.wb
  sub := e'.sub
  live := e'.live
  so := e'.so
  len := by rw [List.length_set, List.length_set]; exact e'.len
  hl := e'.hl
  sl := fun j s hs => by
    rcases set_get hs with ⟨rfl, es, hl⟩ | ⟨hj, hs⟩
    · cases es
      exact ⟨_, set_at _ (by rw [e'.len]; exact hl), ha.ok hE (fun hB => nE (e.sub p hB)) h0⟩
    · obtain ⟨w, h1, h2⟩ := e'.sl j s hs
      exact ⟨w, by rw [List.getElem?_set_ne (Ne.symm hj)]; exact h1, h2⟩
  inj := fun j k s t w hj hk os ot wj wk => by
    have old : ∀ {j : Nat} {s : Sl}, ρ[j]? = some (some s) → s.own = true → σ[j]? ≠ some (some (.ref p)) := fun {j s} hs os q => by
      obtain ⟨v, h1, h2⟩ := e.sl j s hs
      rw [q] at h1; cases h1
      obtain ⟨p', ev, hEc, _⟩ := h2.owns os
      cases ev
      exact nE hEc
    rcases set_get hj with ⟨ej, es, hl⟩ | ⟨nj, hj'⟩
    · rcases set_get hk with ⟨ek, es2, hl2⟩ | ⟨nk, hk'⟩
      · rw [ej, ek]
      · rw [ej, set_at _ (by rw [e'.len]; exact hl)] at wj
        cases wj
        rw [List.getElem?_set_ne (Ne.symm nk)] at wk
        exact absurd wk (old hk' ot)
    · rw [List.getElem?_set_ne (Ne.symm nj)] at wj
      rcases set_get hk with ⟨ek, es2, hl2⟩ | ⟨nk, hk'⟩
      · rw [ek, set_at _ (by rw [e'.len]; exact hl2)] at wk
        cases wk
        exact absurd wj (old hj' os)
      · rw [List.getElem?_set_ne (Ne.symm nk)] at wk
        exact e'.inj j k s t w hj' hk' os ot wj wk
theorem DEnv.own (e : DEnv F E σ H ρ) {E' : Addr → Prop} (e' : DEnv F E' σ H' ρ) {i : Nat} {ds : List D} {p : Addr} {xs : List V} (hE : E' p) (nE : ¬ E p) (h0 : F.H0 p = none) (hp : H' p = some (.lst xs)) (ha : DnA F.K E' H' ds xs) :
    DEnv F E' (σ.set i (some (.ref p))) H' (ρ.set i (some (.ml ds))) := e.ownS e' hE nE h0 ⟨xs, hp, ha⟩
/-- H0's free places -/
theorem DEnv.h0 (e : DEnv F E σ H ρ) {p : Addr} (hp : H p = none) : F.H0 p = none := by
  cases q : F.H0 p with
  | none => rfl
  | some o =>
    by_cases w : F.W p
    · obtain ⟨o', h⟩ := e.live p (e.we w)
      rw [hp] at h; cases h
    · rw [e.fr p o q w] at hp; cases hp
theorem XExt.free (e : DEnv F E σ H ρ) (x : XExt F H H') {p : Addr} (hp : H' p = none) : H p = none := by
  cases q : H p with
  | none => rfl
  | some o =>
    by_cases w : F.W p
    · obtain ⟨o', h⟩ := x.2.live w
      rw [hp] at h; cases h
    · rw [x.1 p o q w] at hp; cases hp
/-- an own list, an own dict is written -/
theorem DEnv.writeS (e : DEnv F E σ H ρ) {i : Nat} {s0 s1 : Sl} {p : Addr} {ob : HO} (hs : ρ[i]? = some (some s0)) (os0 : s0.own = true) (hv : σ[i]? = some (some (.ref p))) (ha : ∀ fe : FExt E H (upd H p ob), OwnAt F E (upd H p ob) p s1) :
    DEnv F E σ (upd H p ob) (ρ.set i (some s1)) := by
  obtain ⟨v, h1, h2⟩ := e.sl i _ hs
  rw [hv] at h1; cases h1
  obtain ⟨p', ev, hE, hB, h0, _⟩ := h2.owns os0
  cases ev
  have hil : i < ρ.length := (List.getElem?_eq_some_iff.mp hs).1
  have fe : FExt E H (upd H p ob) := fun b o q hb => by rw [upd_ne (fun z : b = p => hb (by rw [z]; exact hE))]; exact q
  have ks : ∀ b o, b ≠ p → H b = some o → upd H p ob b = some o := fun b o hb q => by rw [upd_ne hb]; exact q
  have nW : ¬ F.W p := fun w => hB (e.wb p w)
  exact {
    fr := fun b o q w => by
      have nb : b ≠ p := fun z => by subst z; rw [h0] at q; cases q
      exact ks b o nb (e.fr b o q w)
    wb := e.wb
    sub := e.sub
    live := fun b hb => by
      by_cases z : b = p
      · subst z; exact ⟨_, upd_same⟩
      · obtain ⟨o, q⟩ := e.live b hb
        exact ⟨o, ks b o z q⟩
    so := e.so.of fun b o w q => ks b o (fun z => nW (z ▸ w)) q
    len := by rw [List.length_set]; exact e.len
    hl := fun q hq => Dn.ext fe _ _ (e.hl q hq)
    sl := fun j s hs' => by
      rcases set_get hs' with ⟨rfl, es', hl⟩ | ⟨hj, hs'⟩
      · cases es'
        exact ⟨_, hv, (ha fe).ok hE hB h0⟩
      · obtain ⟨w, h1, h2⟩ := e.sl j s hs'
        refine ⟨w, h1, ?_⟩
        have nc : ∀ c, s.own = true → w = .ref c → c ≠ p := fun c os ev z => by
          subst ev
          subst z
          exact hj (e.inj j i _ _ _ hs' hs os os0 h1 hv)
        cases s with
        | im d => exact Dn.ext fe _ _ h2
        | ml fs =>
          obtain ⟨c, zs, ev, hEc, hBc, h0c, hc, hac⟩ := h2
          exact ⟨c, zs, ev, hEc, hBc, h0c, ks c _ (nc c rfl ev) hc, DnA.ext fe _ _ hac⟩
        | md fs gs =>
          obtain ⟨c, us, ws, ev, hEc, hBc, h0c, hc, hac, hbc⟩ := h2
          exact ⟨c, us, ws, ev, hEc, hBc, h0c, hc.at (fun o q => ks c o (nc c rfl ev) q), DnA.ext fe _ _ hac, DnA.ext fe _ _ hbc⟩
        | src => exact h2
    inj := fun j k s t w hj hk os ot wj wk => by
      have g : ∀ {j : Nat} {s : Sl}, (ρ.set i (some s1))[j]? = some (some s) → ∃ s', ρ[j]? = some (some s') ∧ (s.own = true → s'.own = true) := fun {j s} q => by
        rcases set_get q with ⟨rfl, es', hl⟩ | ⟨nj, q⟩
        · exact ⟨_, hs, fun _ => os0⟩
        · exact ⟨s, q, id⟩
      obtain ⟨s', g1, g2⟩ := g hj
      obtain ⟨t', g3, g4⟩ := g hk
      exact e.inj j k s' t' w g1 g3 (g2 os) (g4 ot) wj wk }
theorem DEnv.write (e : DEnv F E σ H ρ) {i : Nat} {ds es : List D} {p : Addr} {xs : List V} (hs : ρ[i]? = some (some (.ml ds))) (hv : σ[i]? = some (some (.ref p))) (ha : DnA F.K E H es xs) :
    DEnv F E σ (upd H p (.lst xs)) (ρ.set i (some (.ml es))) := e.writeS hs rfl hv fun fe => ⟨xs, upd_same, DnA.ext fe _ _ ha⟩
/-- as shared data -/
def Sl.shared : Sl → Sl
  | .ml ds => .im (.lst ds)
  | .md ks vs => .im (.dct ks vs)
  | s => s
/-- an own list, an own dict becomes shared -/
theorem DEnv.frzS (e : DEnv F E σ H ρ) {i : Nat} {s0 : Sl} (hs : ρ[i]? = some (some s0)) (os0 : s0.own = true) : ∃ E', DEnv F E' σ H (ρ.set i (some s0.shared)) := by
  obtain ⟨v, hv, h2⟩ := e.sl i _ hs
  obtain ⟨p, ev, hE, hB, h0, ow⟩ := h2.owns os0
  subst ev
  have le : ∀ b, (E b ∧ b ≠ p) → E b := fun _ z => z.1
  have nsh : s0.shared.own = false := by cases s0 <;> first | rfl | cases os0
  refine ⟨fun b => E b ∧ b ≠ p, ?_⟩
  exact {
    fr := e.fr
    wb := e.wb
    sub := fun b hb => ⟨e.sub b hb, fun z => hB (z ▸ hb)⟩
    live := fun b hb => e.live b hb.1
    so := e.so
    len := by rw [List.length_set]; exact e.len
    hl := fun q hq => Dn.less le _ _ (e.hl q hq)
    sl := fun j s hs' => by
      rcases set_get hs' with ⟨rfl, es', hl⟩ | ⟨hj, hs'⟩
      · cases es'
        refine ⟨_, hv, ?_⟩
        cases s0 with
        | ml ds => obtain ⟨ys, hp, ha⟩ := ow; exact ⟨p, ys, rfl, ⟨fun z => z.2 rfl, hp⟩, DnA.less le _ _ ha⟩
        | md ks vs => obtain ⟨us, ws, hp, ha, hb⟩ := ow; exact ⟨p, us, ws, rfl, fun z => z.2 rfl, hp.rd, DnA.less le _ _ ha, DnA.less le _ _ hb⟩
        | im d => cases os0
        | src => cases os0
      · obtain ⟨w, h1, h2⟩ := e.sl j s hs'
        refine ⟨w, h1, ?_⟩
        have nc : ∀ c, s.own = true → w = .ref c → c ≠ p := fun c os ev z => by
          subst ev
          subst z
          exact hj (e.inj j i _ _ _ hs' hs os os0 h1 hv)
        cases s with
        | im d => exact Dn.less le _ _ h2
        | ml fs =>
          obtain ⟨c, zs, ev, hEc, hBc, h0c, hc, hac⟩ := h2
          exact ⟨c, zs, ev, ⟨hEc, nc c rfl ev⟩, hBc, h0c, hc, DnA.less le _ _ hac⟩
        | md fs gs =>
          obtain ⟨c, us, ws, ev, hEc, hBc, h0c, hc, hac, hbc⟩ := h2
          exact ⟨c, us, ws, ev, ⟨hEc, nc c rfl ev⟩, hBc, h0c, hc, DnA.less le _ _ hac, DnA.less le _ _ hbc⟩
        | src => exact h2
    inj := fun j k s t w hj hk os ot wj wk => by
      rcases set_get hj with ⟨rfl, es, hl⟩ | ⟨nj, hj⟩
      · cases es; rw [nsh] at os; cases os
      rcases set_get hk with ⟨rfl, es, hl⟩ | ⟨nk, hk⟩
      · cases es; rw [nsh] at ot; cases ot
      exact e.inj j k s t w hj hk os ot wj wk }
end

/-! ### statements -/
section
variable {X : Cx} {e a b c : Expr} {ta tb tc : RE} {pos p p' pos' : Pos} {es : List Expr} {t u : RS} {st : Stmt} {rest : List Stmt}
def snext : RS := fun Z ρ => Z.nx ρ
def sseq (t u : RS) : RS := fun Z ρ => t { Z with nx := u Z } ρ
theorem s_nil : SsD X [] snext := fun F hF => pss_nil.imp fun D_ σ H => by
  rintro ⟨E, ρ, Z, env, h, sv⟩
  exact sv.nx _ h E σ H env
theorem s_cons (h1 : SD X st t) (h2 : SsD X rest u) : SsD X (st :: rest) (sseq t u) := fun F hF => (pss_cons (h1 F hF) (h2 F hF)).imp fun D_ σ H => by
  rintro ⟨E, ρ, Z, env, h, sv⟩
  exact ⟨E, ρ, _, env, h, ⟨fun ρ' h' E' σ' H' env' => ⟨E', ρ', Z, env', h', sv⟩, sv.rt, sv.bk, sv.ct⟩⟩
theorem s_one (h1 : SD X st t) : SsD X [st] t := fun F hF => pss_one (h1 F hF)
def sbrk : RS := fun Z ρ => Z.bk ρ
def scnt : RS := fun Z ρ => Z.ct ρ
theorem s_pass : SD X (.Pass pos) snext := fun F hF => ps_pass.imp fun D_ σ H => by
  rintro ⟨E, ρ, Z, env, h, sv⟩
  exact sv.nx _ h E σ H env
theorem s_break : SD X (.Break pos) sbrk := fun F hF => ps_break.imp fun D_ σ H => by
  rintro ⟨E, ρ, Z, env, h, sv⟩
  exact sv.bk _ h E σ H env
theorem s_continue : SD X (.Continue pos) scnt := fun F hF => ps_continue.imp fun D_ σ H => by
  rintro ⟨E, ρ, Z, env, h, sv⟩
  exact sv.ct _ h E σ H env
/-- a statement that is never come to -/
def snever : RS := fun _ _ => False
theorem s_never : SD X st snever := fun F hF => ps_never.imp fun D_ σ H => by
  rintro ⟨E, ρ, Z, env, h, sv⟩
  exact h.elim
def sexpr (te : RE) : RS := fun Z ρ => te ρ fun _ => Z.nx ρ
theorem s_expr (he : ED X e ta) (hs : swapsWith e none pos.line X.env = pure false := by rfl) : SD X (.Expr e pos) (sexpr ta) := fun F hF => (ps_expr (he F hF) hs).imp fun D_ σ H => by
  rintro ⟨E, ρ, Z, env, h, sv⟩
  exact ⟨E, ρ, _, env, h, fun d hd v H1 x1 hv => sv.nx _ hd E σ H1 (env.step x1)⟩
def sret (te : RE) : RS := fun Z ρ => te ρ Z.rt
theorem s_ret (he : ED X e ta) : SD X (.Return (some e) pos) (sret ta) := fun F hF => (ps_ret (he F hF)).imp fun D_ σ H => by
  rintro ⟨E, ρ, Z, env, h, sv⟩
  refine ⟨E, ρ, _, env, h, fun d hd v H1 x1 hv => sv.rt d hd v H1 ?_ (Dn.less env.sub _ _ hv)⟩
  exact ⟨env.fr.trans x1.1, x1.2⟩
def sretn : RS := fun Z ρ => Z.rt .non
theorem s_retN : SD X (.Return none pos) sretn := fun F hF => ps_retN.imp fun D_ σ H => by
  rintro ⟨E, ρ, Z, env, h, sv⟩
  exact sv.rt _ h _ H ⟨env.fr, env.so⟩ rfl
def sif (c : RT) (t u : RS) : RS := fun Z ρ => c ρ fun b => if b = true then t Z ρ else u Z ρ
theorem s_if {tc : RT} {sa sb : List Stmt} (hc : TD X c tc) (ha : SsD X sa t) (hb : SsD X sb u) : SD X (.If c sa sb pos) (sif tc t u) := fun F hF => (ps_if (hc F hF) (ha F hF) (hb F hF)).imp fun D_ σ H => by
  rintro ⟨E, ρ, Z, env, h, sv⟩
  refine ⟨E, ρ, _, env, h, fun b hb H1 x1 => ?_⟩
  cases b with
  | true =>
    rw [if_pos rfl] at hb ⊢
    exact ⟨E, ρ, Z, env.step x1, hb, sv⟩
  | false =>
    rw [if_neg Bool.false_ne_true] at hb ⊢
    exact ⟨E, ρ, Z, env.step x1, hb, sv⟩
/-- x = e -/
def sset (i : Nat) (te : RE) : RS := fun Z ρ => te ρ fun d => Z.nx (ρ.set i (some (.im d)))
theorem s_set {i : Nat} {x : Str} (hN : X.N.Nodup) (hi : X.N[i]? = some x) (hx : Loc X.env.scope x) (he : ED X e ta) (hs : swapsWith e (some (.Name x pos')) pos.line X.env = pure false := by rfl) (hf : X.fn x = true ∨ X.env.scope.names.lookup x = some .local := by first | exact .inl rfl | exact .inr rfl | assumption) :
    SD X (.Assign [.Name x pos'] e pos) (sset i ta) := fun F hF => (ps_set hN hi hx (he F hF) hs hf).imp fun D_ σ H => by
  rintro ⟨E, ρ, Z, env, h, sv⟩
  refine ⟨E, ρ, _, env, h, fun d hd v H1 x1 hv => ?_⟩
  exact sv.nx _ hd E _ H1 ((env.step x1).set hv)
/-- expressions that make a new list -/
def liftF (F : Fx) (t : RL) : TE := fun σ H Q => ∃ E ρ q, DEnv F E σ H ρ ∧ t ρ q ∧ ∀ ds, q ds → ∀ p xs H', XExt F H H' → H p = none → H' p = some (.lst xs) → DnA F.K (plus E p) H' ds xs → Q (.ref p) H'
def FD (X : Cx) (e : Expr) (t : RL) : Prop := ∀ F : Fx, F.K = X.K → PE X e (liftF F t)
def flst (t : RL) : RL := fun ρ q => t ρ fun ds => ds.length ≤ sizeLine ∧ q ds
theorem new_dna {F : Fx} {E : Addr → Prop} {H : Hp} (at_ : At F E H) {p : Addr} {o : HO} {ds : List D} {xs : List V} (hp : H p = none) (h : DnA F.K E H ds xs) : DnA F.K (plus E p) (upd H p o) ds xs :=
  DnA.ext ((XExt.new at_.so hp).1.weaken fun b w => .inl (at_.we b w)) _ _ (DnA.more (fun b hb => hb.elim .inl fun z => .inr (z ▸ hp)) _ _ h)
theorem f_lst {tl : RL} (h : LD X es tl) : FD X (.List es pos) (flst tl) := fun F hF => (pe_lst (h F hF)).imp fun σ H Q => by
  rintro ⟨E, ρ, q, env, h, k⟩
  refine ⟨E, ρ, _, env, h, fun ds hd vs H1 x1 hv => ⟨by rw [hv.len]; exact hd.1, fun p hp => ?_⟩⟩
  have e1 := env.step x1
  exact k _ hd.2 p vs _ (x1.trans (XExt.new e1.so hp)) (XExt.free env x1 hp) upd_same (new_dna e1.at_ hp hv)
def sown (i : Nat) (tl : RL) : RS := fun Z ρ => tl ρ fun ds => Z.nx (ρ.set i (some (.ml ds)))
theorem s_own {i : Nat} {x : Str} {tl : RL} (hN : X.N.Nodup) (hi : X.N[i]? = some x) (hx : Loc X.env.scope x) (he : FD X e tl) (hs : swapsWith e (some (.Name x pos')) pos.line X.env = pure false := by rfl) (hf : X.fn x = true ∨ X.env.scope.names.lookup x = some .local := by first | exact .inl rfl | exact .inr rfl | assumption) :
    SD X (.Assign [.Name x pos'] e pos) (sown i tl) := fun F hF => (ps_set hN hi hx (he F hF) hs hf).imp fun D_ σ H => by
  rintro ⟨E, ρ, Z, env, h, sv⟩
  refine ⟨E, ρ, _, env, h, fun ds hd p xs H1 x1 hp hp' ha => ?_⟩
  have e1 := env.shut x1 hp ⟨_, hp'⟩
  exact sv.nx _ hd _ _ H1 (env.own e1 (.inr rfl) (env.nE hp) (env.h0 hp) hp' ha)
/-- x.append(e) -/
def sapp (i : Nat) (te : RE) : RS := fun Z ρ => match ρ[i]? with
  | some (some (.ml ds)) => te ρ fun d => ds.length < sizeLine ∧ Z.nx (ρ.set i (some (.ml (ds ++ [d]))))
  | _ => False
theorem s_app {i : Nat} {o : Expr} {apos cpos : Pos} (ho : PE X o (tVar i)) (he : ED X e ta)
    (hbase : attributeBase o "append" X.env (eval o X.env) = eval o X.env := by rfl)
    (hfew : ((backTo cpos (starEach (e :: []) X.env)).all (fun x => !x.1) && (backToKw cpos (keywordEach [] X.env)).all (fun x => x.1.isSome)
      && decide ((e :: []).length + ([] : List Keyword).length + (if ([] : List Keyword).isEmpty then 0 else 1) < 30)) = true := by rfl)
    (hline : (apos.endLine == cpos.line) = true := by rfl) (hs : starEach (e :: []) X.env = (false, eval e X.env) :: starEach [] X.env := by rfl) (hplain : (backTo cpos (starEach [] X.env)).any (·.1) = false := by rfl)
    (hsw : swapsWith (.Call (.Attribute o "append" apos) [e] [] cpos) none pos.line X.env = pure false := by rfl) :
    SD X (.Expr (.Call (.Attribute o "append" apos) [e] [] cpos) pos) (sapp i ta) := fun F hF =>
  (ps_expr (pe_bm PySem.F.plainAttrs_list PySem.F.slot_list_append PySem.F.type_list_append mt_append ho (pa_cons (he F hF) pa_nil hs) hbase hfew hline hs hplain) hsw).imp fun D_ σ H => by
  rintro ⟨E, ρ, Z, env, h, sv⟩
  unfold sapp at h
  split at h
  · rename_i ds hi
    obtain ⟨v, hv, p, xs, ev, hE, hB, h0, hp, ha⟩ := env.sl i _ hi
    subst ev
    refine ⟨_, hv, .inl ⟨rfl, xs, SqL.of hp⟩, ?_⟩
    refine ⟨E, ρ, _, env, h, fun d hd w H1 x1 hw => ?_⟩
    have e1 := env.step x1
    obtain ⟨v', hv', p', xs', ev, hE', hB', h0', hp', ha'⟩ := e1.sl i _ hi
    rw [hv] at hv'; cases hv'; cases ev
    refine ⟨p, xs', w, rfl, rfl, hp', by rw [ha'.len]; exact hd.1, ?_⟩
    exact sv.nx _ hd.2 E σ _ (e1.write hi hv (ha'.app (DnA.one hw)))
  · exact h.elim
/-- from here on the list in slot i is shared -/
def sfrz (i : Nat) (t : RS) : RS := fun Z ρ => match ρ[i]? with
  | some (some (.ml ds)) => t Z (ρ.set i (some (.im (.lst ds))))
  | some (some (.md ks vs)) => t Z (ρ.set i (some (.im (.dct ks vs))))
  | some (some (.im d)) => t Z ρ
  | _ => False
theorem s_frz {i : Nat} {sts : List Stmt} (h : SsD X sts t) : SsD X sts (sfrz i t) := fun F hF => (h F hF).imp fun D_ σ H => by
  rintro ⟨E, ρ, Z, env, h, sv⟩
  unfold sfrz at h
  split at h
  · rename_i ds hi
    obtain ⟨E', e'⟩ := env.frzS hi rfl
    exact ⟨E', _, Z, e', h, sv⟩
  · rename_i ks vs hi
    obtain ⟨E', e'⟩ := env.frzS hi rfl
    exact ⟨E', _, Z, e', h, sv⟩
  · exact ⟨E, ρ, Z, env, h, sv⟩
  · exact h.elim
end
end DL

set_option Elab.async false
set_option linter.all false
set_option maxRecDepth 100000
set_option maxHeartbeats 4000000
namespace DL
open PySem L2
/-! ### targets -/
inductive Tg where
  | one (i : Nat)
  | many (is : List Nat)
def putAll : List Nat → List D → Rho → Option Rho
  | [], [], ρ => some ρ
  | i :: is, d :: ds, ρ => putAll is ds (ρ.set i (some (.im d)))
  | _, _, _ => none
def Tg.put : Tg → D → Rho → Option Rho
  | .one i, d, ρ => some (ρ.set i (some (.im d)))
  | .many is, .tup ds, ρ => putAll is ds ρ
  | .many _, _, _ => none
def Tg.slots : Tg → List Nat
  | .one i => [i]
  | .many is => is
/-- what is known of the slots behind a target -/
def SameBut (is : List Nat) (σ σ' : St) : Prop := σ'.length = σ.length ∧ ∀ j, j ∉ is → σ'[j]? = σ[j]?
/-- the target's transformer -/
def gsOf : List Nat → TGs
  | [] => gNil
  | i :: is => gCons (gName i) (gsOf is)
def Tg.g (K : PySem.W.Frag) : Tg → TG
  | .one i => gName i
  | .many is => gTup K is.length (gsOf is)
/-- tg is the target T -/
def GD (X : Cx) (tg : Expr) (T : Tg) : Prop := PG X tg (T.g X.K)
def GsD (X : Cx) (ts : List Expr) (is : List Nat) : Prop := PGs X ts (gsOf is)
theorem gs_sem {F : Fx} {E : Addr → Prop} {H : Hp} {ρ' : Rho} {Q : St → Hp → Prop} : ∀ (is : List Nat) (ds : List D) (vs : List V) (σ : St) (ρ : Rho), DEnv F E σ H ρ → DnA F.K E H ds vs → putAll is ds ρ = some ρ' →
    (∀ σ', DEnv F E σ' H ρ' → SameBut is σ σ' → Q σ' H) → gsOf is vs σ H Q
  | [], [], _, σ, ρ, env, hd, hp, k => by
    cases hp
    exact ⟨hd, k σ env ⟨rfl, fun _ _ => rfl⟩⟩
  | [], _ :: _, _, _, _, _, _, hp, _ => by cases hp
  | _ :: _, [], _, _, _, _, _, hp, _ => by cases hp
  | i :: is, d :: ds, _, σ, ρ, env, ⟨x, r, ex, hx, hr⟩, hp, k => by
    refine ⟨x, r, ex, ?_⟩
    refine gs_sem is ds r _ _ (env.set (i := i) hx) hr hp fun σ2 e2 s2 => k σ2 e2 ⟨s2.1.trans (by rw [List.length_set]), fun j hj => ?_⟩
    have hne : i ≠ j := fun z => hj (by rw [z]; exact List.mem_cons_self)
    rw [s2.2 j (fun z => hj (List.mem_cons_of_mem _ z)), List.getElem?_set_ne hne]
theorem put_len {ρ' : Rho} : ∀ (is : List Nat) (ds : List D) (ρ : Rho), putAll is ds ρ = some ρ' → ds.length = is.length
  | [], [], _, _ => rfl
  | [], _ :: _, _, h => by cases h
  | _ :: _, [], _, h => by cases h
  | i :: is, d :: ds, ρ, h => by rw [List.length_cons, List.length_cons, put_len is ds _ h]
theorem Tg.sem {F : Fx} {E : Addr → Prop} {σ : St} {H : Hp} {ρ ρ' : Rho} {d : D} {v : V} {Q : St → Hp → Prop} (T : Tg) (env : DEnv F E σ H ρ) (hd : Dn F.K E H d v) (hp : T.put d ρ = some ρ') (k : ∀ σ', DEnv F E σ' H ρ' → SameBut T.slots σ σ' → Q σ' H) : T.g F.K v σ H Q := by
  cases T with
  | one i =>
    cases hp
    refine k _ (env.set hd) ⟨by rw [List.length_set], fun j hj => ?_⟩
    have hne : i ≠ j := fun z => hj (by rw [z]; exact List.mem_singleton.mpr rfl)
    rw [List.getElem?_set_ne hne]
  | many is =>
    cases d with
    | tup ds =>
      obtain ⟨a, xs, rfl, tt, ga⟩ := hd
      exact ⟨a, xs, rfl, tt.sq, by rw [ga.len]; exact put_len is ds ρ hp, gs_sem is ds xs σ ρ env ga hp k⟩
    | _ => cases hp
section
variable {X : Cx} {e a b c tg iter : Expr} {ta tb tc : RE} {pos p p' pos' : Pos} {es : List Expr} {t u : RS} {st : Stmt} {rest : List Stmt}
theorem g_one {i : Nat} {x : Str} (hN : X.N.Nodup) (hi : X.N[i]? = some x) (hx : Loc X.env.scope x) (hf : X.fn x = true ∨ X.env.scope.names.lookup x = some .local := by first | exact .inl rfl | exact .inr rfl | assumption) : GD X (.Name x pos) (.one i) :=
  pg_name hN hi hx hf
theorem gs_nil : GsD X [] [] := pgs_nil
theorem gs_cons {i : Nat} {is : List Nat} (h1 : GD X e (.one i)) (h2 : GsD X es is) (hs : (assignEach (e :: es) X.env).map (·.2) = assign e X.env :: (assignEach es X.env).map (·.2) := by rfl) : GsD X (e :: es) (i :: is) := pgs_cons h1 h2 hs
theorem g_many {is : List Nat} {k : Nat} (hc : X.calm = true) (h : GsD X es is) (hn : (assignEach es X.env).length = is.length := by rfl) (hst : (assignEach es X.env).findIdx? (·.1) = none := by rfl) : GD X (.Tuple es k pos) (.many is) := pg_tup hc h hn hst

/-! ### what is walked -/
/-- J walks the items ds as long as the value hv denotes hd -/
def Walk (F : Fx) (J : It) (hv : V) (hd : D) (ds : List D) : Prop := ∀ (E : Addr → Prop) (H : Hp), At F E H → Dn F.K E H hd hv →
  (∀ (i : Nat) d, ds[i]? = some d → J.go i H ∧ ∀ x H', J.yld i H x H' → Same H H' ∧ Dn F.K E H' d x) ∧ ∀ i, ds.length ≤ i → J.stop i H
def liftI (F : Fx) (t : RL) : TI := fun σ H R => ∃ E ρ q, DEnv F E σ H ρ ∧ t ρ q ∧ ∀ ds, q ds → ∀ J H' hv hd, XExt F H H' → Dn F.K E H' hd hv → (∀ G : Fx, G.K = F.K → G.src = F.src → Walk G J hv hd ds) → R J H'
def ID (X : Cx) (tg iter : Expr) (t : RL) : Prop := ∀ F : Fx, F.K = X.K → PI X tg iter (liftI F t)
theorem _root_.L2.PI.imp {X : Cx} {tg e : Expr} {t u : TI} (h : PI X tg e t) (k : ∀ σ H R, u σ H R → t σ H R) : PI X tg e u := ⟨fun pins s σ H R I q => h.run pins s σ H R I (k _ _ _ q)⟩
/-- a list that is shared -/
def ilst (t : RE) : RL := fun ρ q => t ρ fun d => match d with
  | .lst ds => q ds
  | _ => False
theorem i_lst (h : ED X iter ta) : ID X tg iter (ilst ta) := fun F hF => (pi_list (h F hF)).imp fun σ H R => by
  rintro ⟨E, ρ, q, env, h, k⟩
  refine ⟨E, ρ, _, env, h, fun d hd v H1 x1 hv => ?_⟩
  split at hd
  · rename_i ds
    obtain ⟨a, xs, rfl, l, g⟩ := id hv
    refine ⟨a, rfl, ⟨xs, l.sq⟩, k ds hd _ H1 _ (.lst ds) x1 hv fun G hK hS E' H' at_ hv' => ?_⟩
    obtain ⟨a', ys, e', l', g'⟩ := hv'
    cases e'
    refine ⟨fun i d hi => ?_, fun i hi => ⟨ys, l'.sq, by rw [g'.len]; exact hi⟩⟩
    obtain ⟨x, hx, dx⟩ := g'.get hi
    refine ⟨⟨ys, x, l'.sq, hx⟩, fun y H2 hy => ?_⟩
    obtain ⟨rfl, hy⟩ := hy
    have := hy ys l'.sq
    rw [hx] at this; cases this
    exact ⟨Same.refl _, dx⟩
  · exact hd.elim
def itup (t : RE) : RL := fun ρ q => t ρ fun d => match d with
  | .tup ds => q ds
  | _ => False
theorem i_tup (h : ED X iter ta) : ID X tg iter (itup ta) := fun F hF => (pi_tup (h F hF)).imp fun σ H R => by
  rintro ⟨E, ρ, q, env, h, k⟩
  refine ⟨E, ρ, _, env, h, fun d hd v H1 x1 hv => ?_⟩
  split at hd
  · rename_i ds
    obtain ⟨a, xs, rfl, l, g⟩ := id hv
    refine ⟨a, rfl, ⟨xs, by rw [← hF]; exact l.sq⟩, k ds hd _ H1 _ (.tup ds) x1 hv fun G hK hS E' H' at_ hv' => ?_⟩
    obtain ⟨a', ys, e', l', g'⟩ := hv'
    cases e'
    have sq : SqT X.K H' a ys := by rw [← hF, ← hK]; exact l'.sq
    refine ⟨fun i d hi => ?_, fun i hi => ⟨ys, sq, by rw [g'.len]; exact hi⟩⟩
    obtain ⟨x, hx, dx⟩ := g'.get hi
    refine ⟨⟨ys, x, sq, hx⟩, fun y H2 hy => ?_⟩
    obtain ⟨rfl, hy⟩ := hy
    have := hy ys sq
    rw [hx] at this; cases this
    exact ⟨Same.refl _, dx⟩
  · exact hd.elim
/-- range(n), range(a, b) -/
def nums (lo : Int) (n : Nat) : List D := (List.range n).map fun i => .int (lo + (i : Nat))
theorem ints_get {lo : Int} {n i : Nat} {d : D} (h : (nums lo n)[i]? = some d) : i < n ∧ d = .int (lo + (i : Nat)) := by
  unfold nums at h
  rw [List.getElem?_map] at h
  cases q : (List.range n)[i]? with
  | none => rw [q] at h; cases h
  | some j =>
    rw [q] at h
    obtain ⟨h1, h2⟩ := List.getElem?_eq_some_iff.mp q
    rw [List.getElem_range] at h2
    subst h2
    rw [List.length_range] at h1
    exact ⟨h1, (Option.some.inj h).symm⟩
theorem ints_len (lo : Int) (n : Nat) : (nums lo n).length = n := by unfold nums; rw [List.length_map, List.length_range]
theorem walk_range {G : Fx} (lo : Int) (n : Nat) : Walk G (Itr lo n) .non .non (nums lo n) := fun E' H' at_ hv' => by
  refine ⟨fun i d hi => ?_, fun i hi => by rw [ints_len] at hi; exact hi⟩
  obtain ⟨h1, rfl⟩ := ints_get hi
  refine ⟨h1, fun x H2 hx => ?_⟩
  obtain ⟨rfl, rfl⟩ := hx
  exact ⟨Same.refl _, rfl⟩
def irng1 (t : RE) : RL := fun ρ q => t ρ fun d => match d with
  | .int j => (-(2 ^ 62) ≤ j ∧ j < 2 ^ 62) ∧ q (nums 0 j.toNat)
  | _ => False
theorem i_rng1 (hg : Gl X "range") (hm : X.mg "range" = none) (ha : ED X a ta) (hs : starEach [a] X.env = [(false, eval a X.env)] := by rfl) (hs' : starEach [a] X.env = (false, eval a X.env) :: starEach [] X.env := by rfl) : ID X tg (.Call (.Name "range" p) [a] [] pos) (irng1 ta) := fun F hF =>
  (pi_range1 hg hm (pa_cons (ha F hF) pa_nil hs') hs).imp fun σ H R => by
  rintro ⟨E, ρ, q, env, h, k⟩
  refine ⟨E, ρ, _, env, h, fun d hd v H1 x1 hv => ?_⟩
  split at hd
  · rename_i j
    rw [show v = .int j from hv]
    exact ⟨j, rfl, hd.1.1, hd.1.2, k _ hd.2 _ H1 .non .non x1 rfl fun G _ _ => walk_range 0 j.toNat⟩
  · exact hd.elim
def irng2 (ta tb : RE) : RL := fun ρ q => ta ρ fun d => tb ρ fun e => match d, e with
  | .int i, .int j => (-(2 ^ 62) ≤ i ∧ i < 2 ^ 62 ∧ -(2 ^ 62) ≤ j ∧ j < 2 ^ 62) ∧ q (nums i (j - i).toNat)
  | _, _ => False
theorem i_rng2 (hg : Gl X "range") (hm : X.mg "range" = none) (ha : ED X a ta) (hb : ED X b tb) (hs : starEach [a, b] X.env = [(false, eval a X.env), (false, eval b X.env)] := by rfl) (hs2 : starEach [b] X.env = [(false, eval b X.env)] := by rfl)
    (hs' : starEach [a, b] X.env = (false, eval a X.env) :: starEach [b] X.env := by rfl) (hs2' : starEach [b] X.env = (false, eval b X.env) :: starEach [] X.env := by rfl) : ID X tg (.Call (.Name "range" p) [a, b] [] pos) (irng2 ta tb) := fun F hF =>
  (pi_range2 hg hm (pa_cons (ha F hF) (pa_cons (hb F hF) pa_nil hs2') hs') hs hs2).imp fun σ H R => by
  rintro ⟨E, ρ, q, env, h, k⟩
  refine ⟨E, ρ, _, env, h, fun d hd v H1 x1 hv => ?_⟩
  refine ⟨E, ρ, _, env.step x1, hd, fun d2 hd2 v2 H2 x2 hv2 => ?_⟩
  split at hd2
  · rename_i i j
    rw [show v = .int i from hv, show v2 = .int j from hv2]
    exact ⟨i, j, rfl, hd2.1, k _ hd2.2 _ H2 .non .non (x1.trans x2) rfl fun G _ _ => walk_range i (j - i).toNat⟩
  · exact hd2.elim

/-! ### for, while -/
def fordo (T : Tg) (tb : RS) (Z : DEnds) : List D → Rho → Prop
  | [], ρ => Z.nx ρ
  | d :: ds, ρ => match T.put d ρ with
    | some ρ' => tb { Z with nx := fordo T tb Z ds, ct := fordo T tb Z ds, bk := Z.nx } ρ'
    | none => False
def sfor (w : RL) (T : Tg) (tb : RS) : RS := fun Z ρ => w ρ fun ds => fordo T tb Z ds ρ
def Fx.hold (F : Fx) (v : V) (d : D) : Fx := { F with held := (v, d) :: F.held }
theorem DEnv.hold {F : Fx} {E : Addr → Prop} {σ : St} {H : Hp} {ρ : Rho} (e : DEnv F E σ H ρ) {v : V} {d : D} (h : Dn F.K E H d v) : DEnv (F.hold v d) E σ H ρ :=
  ⟨e.fr, e.wb, e.sub, e.live, e.so, e.len, fun p hp => by
    rcases List.mem_cons.mp hp with rfl | hp
    · exact h
    · exact e.hl p hp, fun i s hs => by
    obtain ⟨w, h1, h2⟩ := e.sl i s hs
    refine ⟨w, h1, ?_⟩
    cases s with
    | im d => exact h2
    | ml ds => exact h2
    | md ks vs => exact h2
    | src => exact h2, e.inj⟩
theorem DEnv.drop {F : Fx} {E : Addr → Prop} {σ : St} {H : Hp} {ρ : Rho} {v : V} {d : D} (e : DEnv (F.hold v d) E σ H ρ) : DEnv F E σ H ρ :=
  ⟨e.fr, e.wb, e.sub, e.live, e.so, e.len, fun p hp => e.hl p (List.mem_cons_of_mem _ hp), fun i s hs => by
    obtain ⟨w, h1, h2⟩ := e.sl i s hs
    refine ⟨w, h1, ?_⟩
    cases s with
    | im d => exact h2
    | ml ds => exact h2
    | md ks vs => exact h2
    | src => exact h2, e.inj⟩
theorem DEnv.heldAt {F : Fx} {E : Addr → Prop} {σ : St} {H : Hp} {ρ : Rho} {v : V} {d : D} (e : DEnv (F.hold v d) E σ H ρ) : Dn F.K E H d v := e.hl (v, d) List.mem_cons_self
theorem s_for {tl : RL} {T : Tg} {tb : RS} {body : List Stmt} (hp : PassesOwn (model X.prog X.w) X.A X.env X.xe) (hc : X.calm = true) (hi : ID X tg iter tl) (hg : GD X tg T) (hb : SsD X body tb)
    (hs : ∀ x, foldedSetIterable iter X.env x = pure x := by intro _; rfl) : SD X (.For tg iter body [] pos) (sfor tl T tb) := fun F hF => by
  -- the body under any held value
  have hb' : PSs X body (fun D_ σ H => ∃ v d, liftS (F.hold v d) tb D_ σ H) := ⟨fun pins s σ H D_ I ⟨v, d, q⟩ => (hb (F.hold v d) hF).run pins s σ H D_ I q⟩
  refine (ps_for hp hc (hi F hF) hg hb' hs).imp fun D_ σ H => ?_
  rintro ⟨E, ρ, Z, env, h, sv⟩
  refine ⟨E, ρ, _, env, h, fun ds hds J H1 hv hd x1 hdn wk => ?_⟩
  have W := wk (F.hold hv hd) rfl rfl
  refine ⟨fun i m σ H => m = ds.length - i ∧ i ≤ ds.length ∧ ∃ E ρ, DEnv (F.hold hv hd) E σ H ρ ∧ fordo T tb Z (ds.drop i) ρ, ⟨ds.length, rfl, Nat.zero_le _, E, ρ, (env.step x1).hold hdn, hds⟩, ?_⟩
  rintro i m σ H ⟨rfl, hi, E, ρ, env, hr⟩
  obtain ⟨w1, w2⟩ := W E H env.at_ env.heldAt
  by_cases hlt : i < ds.length
  · have hget : ds[i]? = some ds[i] := List.getElem?_eq_getElem hlt
    rw [List.drop_eq_getElem_cons hlt] at hr
    obtain ⟨hgo, hy⟩ := w1 i _ hget
    unfold fordo at hr
    split at hr
    · rename_i ρ' hput
      refine .inr ⟨hgo, fun σ' H' => ∃ E ρ, DEnv (F.hold hv hd) E σ' H' ρ ∧ fordo T tb Z (ds.drop (i + 1)) ρ, fun σ' H' q => ⟨_, Nat.sub_lt_sub_left hlt (Nat.lt_succ_self i), rfl, hlt, q⟩, fun x H' hx => ?_⟩
      obtain ⟨sm, dx⟩ := hy x H' hx
      have e2 := env.step (XExt.same env.so sm)
      rw [← hF]
      refine Tg.sem (F := F.hold hv hd) T e2 dx hput fun σ2 e3 _ => ?_
      refine ⟨hv, hd, E, ρ', _, e3, hr, ⟨fun ρ2 h2 E2 σ2 H2 env2 => ⟨E2, ρ2, env2, h2⟩, fun d hd' v H2 x2 dv => sv.rt d hd' v H2 x2 dv, fun ρ2 h2 E2 σ2 H2 env2 => sv.nx ρ2 h2 E2 σ2 H2 env2.drop, fun ρ2 h2 E2 σ2 H2 env2 => ⟨E2, ρ2, env2, h2⟩⟩⟩
    · exact hr.elim
  · have hil : i = ds.length := by omega
    rw [hil, List.drop_length] at hr
    exact .inl ⟨w2 i (by omega), sv.nx _ hr E σ H env.drop⟩
/-- while, with fuel -/
def whiledo (tc : RT) (tb : RS) (Z : DEnds) : Nat → Rho → Prop
  | 0, _ => False
  | n + 1, ρ => tc ρ fun b => if b = true then tb { Z with nx := whiledo tc tb Z n, ct := whiledo tc tb Z n, bk := Z.nx } ρ else Z.nx ρ
def swhile (tc : RT) (tb : RS) : RS := fun Z ρ => ∃ n, whiledo tc tb Z n ρ
theorem s_while {tc : RT} {tb : RS} {body : List Stmt} (hp : PassesOwn (model X.prog X.w) X.A X.env X.xe) (hc : TD X c tc) (hb : SsD X body tb) : SD X (.While c body [] pos) (swhile tc tb) := fun F hF => by
  refine (ps_while hp (hc F hF) (hb F hF)).imp fun D_ σ H => ?_
  rintro ⟨E, ρ, Z, env, ⟨n, h⟩, sv⟩
  refine ⟨fun m σ H => ∃ E ρ, DEnv F E σ H ρ ∧ whiledo tc tb Z m ρ, ⟨n, E, ρ, env, h⟩, ?_⟩
  rintro m σ H ⟨E, ρ, env, h⟩
  cases m with
  | zero => exact h.elim
  | succ m =>
    refine ⟨E, ρ, _, env, h, fun b hb H1 x1 => ?_⟩
    have e1 := env.step x1
    cases b with
    | true =>
      rw [if_pos rfl] at hb
      show if true = true then _ else _
      rw [if_pos rfl]
      refine ⟨fun σ' H' => ∃ E ρ, DEnv F E σ' H' ρ ∧ whiledo tc tb Z m ρ, fun σ' H' q => ⟨m, Nat.lt_succ_self m, q⟩, E, ρ, _, e1, hb, ⟨fun ρ2 h2 E2 σ2 H2 env2 => ⟨E2, ρ2, env2, h2⟩, sv.rt, sv.nx, fun ρ2 h2 E2 σ2 H2 env2 => ⟨E2, ρ2, env2, h2⟩⟩⟩
    | false =>
      rw [if_neg Bool.false_ne_true] at hb
      show if false = true then _ else _
      rw [if_neg Bool.false_ne_true]
      exact sv.nx _ hb E σ H1 e1

/-! ### a def -/
def fnR (n m : Nat) (t : RS) : RF := fun ss q => ss.length = n ∧ t ⟨fun _ => q .non, q, fun _ => False, fun _ => False⟩ (ss.map some ++ List.replicate m none)
theorem fnR_len {n m : Nat} {t : RS} : ∀ ss q, fnR n m t ss q → ss.length = n := fun _ _ h => h.1
theorem args_env {F : Fx} {H : Hp} {vs : List V} {ss : List Sl} (h : ArgsOk F F.B H vs ss) : ∀ (i : Nat) s, ss[i]? = some s → ∃ v, vs[i]? = some v ∧ SlOk F F.B H v s ∧ s.own = false := by
  induction vs generalizing ss with
  | nil =>
    intro i s hs
    cases ss with
    | nil => simp at hs
    | cons => exact (show False from h).elim
  | cons v vs ih =>
    intro i s hs
    cases ss with
    | nil => simp at hs
    | cons s' ss =>
      cases i with
      | zero =>
        simp at hs; subst hs
        refine ⟨v, rfl, ?_, ?_⟩
        · cases s' with
          | im d => exact h.1
          | ml ds => exact (show False from h.1).elim
          | md ks vs => exact (show False from h.1).elim
          | src => exact h.1
        · cases s' with
          | im d => rfl
          | ml ds => exact (show False from h.1).elim
          | md ks vs => exact (show False from h.1).elim
          | src => rfl
      | succ i => exact ih h.2 i s (by simpa using hs)
theorem start_env {F : Fx} {H : Hp} {vs : List V} {ss : List Sl} {N : List Str} (hH : F.H0 = H) (hh : F.held = []) (hw : ∀ b, F.W b → F.B b) (hl : ∀ b, F.B b → ∃ o, H b = some o) (so : F.SO H) (h : ArgsOk F F.B H vs ss) :
    DEnv F F.B (L2.start N vs) H (ss.map some ++ List.replicate (N.length - ss.length) none) where
  fr := hH ▸ FExt.refl _ _
  wb := hw
  sub := fun _ z => z
  live := hl
  so := so
  len := by unfold L2.start; rw [List.length_append, List.length_append, List.length_map, List.length_map, List.length_replicate, List.length_replicate, h.len]
  hl := fun p hp => by rw [hh] at hp; cases hp
  sl := fun i s hs => by
    rw [List.getElem?_append] at hs
    split at hs
    · rw [List.getElem?_map] at hs
      cases q : ss[i]? with
      | none => rw [q] at hs; cases hs
      | some s' =>
        rw [q] at hs; cases hs
        obtain ⟨v, h1, h2, _⟩ := args_env h i s q
        refine ⟨v, ?_, h2⟩
        unfold L2.start
        have hi : i < vs.length := (List.getElem?_eq_some_iff.mp h1).1
        rw [List.getElem?_append_left (by rw [List.length_map]; exact hi), List.getElem?_map, h1]; rfl
    · rw [List.getElem?_replicate] at hs
      split at hs <;> cases hs
  inj := fun i j s t v hi hj os ot _ _ => by
    rw [List.getElem?_append] at hi
    split at hi
    · rw [List.getElem?_map] at hi
      cases q : ss[i]? with
      | none => rw [q] at hi; cases hi
      | some s' =>
        rw [q] at hi; cases hi
        obtain ⟨v, _, _, h3⟩ := args_env h i s q
        rw [h3] at os; cases os
    · rw [List.getElem?_replicate] at hi
      split at hi <;> cases hi
theorem fn_ok {P : Program} {w : World} {K : PySem.W.Frag} {mg : Str → Option Value} {base : Heap} {x qual : Str} {st : Stmt} {f : Addr} {fd : FuncData} {N ps : List Str} {k : Nat} {t : RS} (Fn : Fun K x qual st f fd) (S : FnScope N ps (defScope st))
    (hb : ∀ (cdv : Value) (A : Around) (outer : List Env) (s : Shared) (H : Hp) (E : XK), Room k (A.deeper (PyProof.Rows.envOfC qual (defScope st) s.heap.objs.size f cdv)) → SsD (cxOf CX0 P w K mg base N qual (defScope st) f cdv A outer s H E).nox (defBody st) t) :
    FnOk P w K mg base CX0 (k + 1) f fd ps (spD K ps.length (fnR ps.length (N.length - ps.length) t)) := by
  refine Fn.ok S (fun vs H Q E h => ?_) (fun cdv A outer s H vs Q E hr h => ?_)
  · obtain ⟨F, ss, q, _, _, _, _, _, _, hl, _⟩ := h
    exact hl
  · obtain ⟨F, ss, q, hK, hH, hh, hw, hlv, so, hl, ha, ⟨hn, ht⟩, k⟩ := h
    refine ⟨_, hb cdv A outer s H E hr F hK, F.B, _, _, ?_, ht, ⟨fun ρ hq E' σ' H' env => k _ hq _ H' ?_ rfl, fun d hd v H' x1 hv => k d hd v H' (by rw [hH] at x1; exact x1) hv, fun ρ z => z.elim, fun ρ z => z.elim⟩⟩
    · have := start_env (N := N) hH hh hw hlv so ha
      rw [hn] at this
      exact this
    · exact ⟨by have := env.fr; rw [hH] at this; exact this, env.so⟩
end
end DL

set_option Elab.async false
set_option linter.all false
set_option maxRecDepth 100000
set_option maxHeartbeats 4000000
namespace DL
open PySem L2
/-! ### a, b = e, f -/
/-- E grows to E' over a step from H to H' -/
structure Grow (F : Fx) (E : Addr → Prop) (H : Hp) (E' : Addr → Prop) (H' : Hp) : Prop where
  x : XExt F H H'
  sub : ∀ b, E b → E' b
  more : ∀ b, E' b → E b ∨ H b = none
  live : ∀ b, E' b → ∃ o, H' b = some o
def OwnIn (E : Addr → Prop) (σ : St) (ρ : Rho) : Prop := ∀ (j : Nat) s p, ρ[j]? = some (some s) → s.own = true → σ[j]? = some (some (.ref p)) → E p
/-- a value that is new between E and E1, as it stands at E', H' -/
def New1 (F : Fx) (E E1 E' : Addr → Prop) (H' : Hp) (v : V) : Sl → Prop
  | .im d => (∀ b, E b → E1 b) ∧ Dn F.K E' H' d v
  | .ml ds => (∀ b, E b → E1 b) ∧ ∃ p xs, v = .ref p ∧ E1 p ∧ ¬ E p ∧ E' p ∧ ¬ F.B p ∧ F.H0 p = none ∧ H' p = some (.lst xs) ∧ DnA F.K E' H' ds xs
  | .md ks vs => (∀ b, E b → E1 b) ∧ ∃ p, v = .ref p ∧ E1 p ∧ ¬ E p ∧ E' p ∧ ¬ F.B p ∧ F.H0 p = none ∧ OwnAt F E' H' p (.md ks vs)
  | .src => False
def NewA (F : Fx) (E' : Addr → Prop) (H' : Hp) : (Addr → Prop) → List V → List Sl → Prop
  | _, [], [] => True
  | E, v :: vs, s :: ss => ∃ E1, New1 F E E1 E' H' v s ∧ NewA F E' H' E1 vs ss
  | _, _, _ => False
section
variable {F : Fx} {E E1 E' : Addr → Prop} {σ : St} {H H1 H' : Hp} {ρ : Rho}
theorem DEnv.ownIn (e : DEnv F E σ H ρ) : OwnIn E σ ρ := fun j s p hs os hv => by
  obtain ⟨v, h1, h2⟩ := e.sl j s hs
  rw [hv] at h1; cases h1
  cases s with
  | ml ds => obtain ⟨c, ys, ev, hEc, _⟩ := h2; cases ev; exact hEc
  | md ks vs => obtain ⟨c, us, ws, ev, hEc, _⟩ := h2; cases ev; exact hEc
  | _ => exact absurd (show false = true from os) Bool.false_ne_true
theorem Grow.dn (g : Grow F E H E' H') (we : ∀ b, F.W b → E b) {d : D} {v : V} (h : Dn F.K E H d v) : Dn F.K E' H' d v := Dn.ext (g.x.1.weaken fun b w => g.sub b (we b w)) _ _ (Dn.more g.more _ _ h)
theorem Grow.dna (g : Grow F E H E' H') (we : ∀ b, F.W b → E b) {d : List D} {v : List V} (h : DnA F.K E H d v) : DnA F.K E' H' d v := DnA.ext (g.x.1.weaken fun b w => g.sub b (we b w)) _ _ (DnA.more g.more _ _ h)
theorem DEnv.grow (e : DEnv F E σ H ρ) (g : Grow F E H E' H') : DEnv F E' σ H' ρ where
  fr := e.fr.trans g.x.1
  wb := e.wb
  sub := fun b hb => g.sub b (e.sub b hb)
  live := g.live
  so := g.x.2
  len := e.len
  hl := fun p hp => g.dn (fun _ => e.we) (e.hl p hp)
  sl := fun i s hs => by
    obtain ⟨v, h1, h2⟩ := e.sl i s hs
    refine ⟨v, h1, ?_⟩
    cases s with
    | im d => exact g.dn (fun _ => e.we) h2
    | ml ds =>
      obtain ⟨c, xs, ev, hE, hB, h0, hc, ha⟩ := h2
      exact ⟨c, xs, ev, g.sub c hE, hB, h0, g.x.1 c _ hc (fun w => hB (e.wb c w)), g.dna (fun _ => e.we) ha⟩
    | md ks vs =>
      obtain ⟨c, us, ws, ev, hE, hB, h0, hc, ha, hb⟩ := h2
      exact ⟨c, us, ws, ev, g.sub c hE, hB, h0, hc.at (fun o q => g.x.1 c o q (fun w => hB (e.wb c w))), g.dna (fun _ => e.we) ha, g.dna (fun _ => e.we) hb⟩
    | src => exact h2
  inj := e.inj
theorem Grow.trans (a : Grow F E H E1 H1) (b : Grow F E1 H1 E' H') (hf : ∀ p, H1 p = none → H p = none) : Grow F E H E' H' where
  x := a.x.trans b.x
  sub := fun p h => b.sub p (a.sub p h)
  more := fun p h => (b.more p h).elim (a.more p) fun z => .inr (hf p z)
  live := b.live
theorem Grow.of (e : DEnv F E σ H ρ) (x : XExt F H H') : Grow F E H E H' := ⟨x, fun _ z => z, fun _ => .inl, (e.step x).live⟩
theorem DEnv.put0 (e : DEnv F E' σ H' ρ) (ow : OwnIn E σ ρ) {i : Nat} {s0 : Sl} {p : Addr} (sub : ∀ b, E b → E1 b) (h1 : E1 p) (nE : ¬ E p) (hE : E' p) (nB : ¬ F.B p) (h0 : F.H0 p = none) (ha : OwnAt F E' H' p s0) :
    DEnv F E' (σ.set i (some (.ref p))) H' (ρ.set i (some s0)) ∧ OwnIn E1 (σ.set i (some (.ref p))) (ρ.set i (some s0)) := by
  refine ⟨?_, fun j s q hs os hv => ?_⟩
  · exact {
      fr := e.fr
      wb := e.wb
      sub := e.sub
      live := e.live
      so := e.so
      len := by rw [List.length_set, List.length_set]; exact e.len
      hl := e.hl
      sl := fun j s hs => by
        rcases set_get hs with ⟨ej, es, hl⟩ | ⟨hj, hs'⟩
        · cases es
          exact ⟨_, by rw [ej]; exact set_at _ (by rw [e.len]; exact hl), ha.ok hE nB h0⟩
        · obtain ⟨w, h1, h2⟩ := e.sl j s hs'
          exact ⟨w, by rw [List.getElem?_set_ne (Ne.symm hj)]; exact h1, h2⟩
      inj := fun j k s t w hj hk os ot wj wk => by
        rcases set_get hj with ⟨ej, es, hl⟩ | ⟨nj, hj'⟩
        · rcases set_get hk with ⟨ek, es2, hl2⟩ | ⟨nk, hk'⟩
          · rw [ej, ek]
          · rw [ej, set_at _ (by rw [e.len]; exact hl)] at wj
            cases wj
            rw [List.getElem?_set_ne (Ne.symm nk)] at wk
            exact absurd (ow k t p hk' ot wk) nE
        · rw [List.getElem?_set_ne (Ne.symm nj)] at wj
          rcases set_get hk with ⟨ek, es2, hl2⟩ | ⟨nk, hk'⟩
          · rw [ek, set_at _ (by rw [e.len]; exact hl2)] at wk
            cases wk
            exact absurd (ow j s p hj' os wj) nE
          · rw [List.getElem?_set_ne (Ne.symm nk)] at wk
            exact e.inj j k s t w hj' hk' os ot wj wk }
  · rcases set_get hs with ⟨ej, es, hl⟩ | ⟨nj, hs'⟩
    · rw [ej, set_at _ (by rw [e.len]; exact hl)] at hv
      cases hv
      exact h1
    · rw [List.getElem?_set_ne (Ne.symm nj)] at hv
      exact sub q (ow j s q hs' os hv)
theorem DEnv.put1 (e : DEnv F E' σ H' ρ) (ow : OwnIn E σ ρ) {i : Nat} {v : V} {s : Sl} (n : New1 F E E1 E' H' v s) : DEnv F E' (σ.set i (some v)) H' (ρ.set i (some s)) ∧ OwnIn E1 (σ.set i (some v)) (ρ.set i (some s)) := by
  cases s with
  | im d =>
    refine ⟨e.set n.2, fun j s p hs os hv => ?_⟩
    rcases set_get hs with ⟨ej, es, hl⟩ | ⟨nj, hs'⟩
    · cases es; exact absurd (show false = true from os) Bool.false_ne_true
    · rw [List.getElem?_set_ne (Ne.symm nj)] at hv
      exact n.1 p (ow j s p hs' os hv)
  | ml ds =>
    obtain ⟨sub, p, xs, ev, h1, nE, hE, nB, h0, hp, ha⟩ := n
    subst ev
    exact e.put0 ow sub h1 nE hE nB h0 ⟨xs, hp, ha⟩
  | md ks vs =>
    obtain ⟨sub, p, ev, h1, nE, hE, nB, h0, ha⟩ := n
    subst ev
    exact e.put0 ow sub h1 nE hE nB h0 ha
  | src => exact (show False from n).elim
end
def liftK (F : Fx) (t : RA) : TA := fun σ H Q => ∃ E ρ q, DEnv F E σ H ρ ∧ t ρ q ∧ ∀ ss, q ss → ∀ vs H' E', Grow F E H E' H' → NewA F E' H' E vs ss → Q vs H'
def KD (X : Cx) (es : List Expr) (t : RA) : Prop := ∀ F : Fx, F.K = X.K → PA X es (liftK F t)
section
variable {X : Cx} {e a b c tg iter elt : Expr} {ta tb tc te : RE} {pos p p' pos' : Pos} {es ifs : List Expr} {t u : RS} {st : Stmt} {rest : List Stmt} {tr : RA} {tl w : RL}
theorem k_nil : KD X [] anil := fun F hF => pa_nil.imp fun σ H Q => by
  rintro ⟨E, ρ, q, env, h, k⟩
  exact k _ h _ H E (Grow.of env (XExt.refl env.so)) trivial
theorem k_im (ha : ED X e ta) (hr : KD X es tr) (hs : starEach (e :: es) X.env = (false, eval e X.env) :: starEach es X.env := by rfl) : KD X (e :: es) (acons ta tr) := fun F hF => (pa_cons (ha F hF) (hr F hF) hs).imp fun σ H Q => by
  rintro ⟨E, ρ, q, env, h, k⟩
  refine ⟨E, ρ, _, env, h, fun d hd v H1 x1 hv => ?_⟩
  have e1 := env.step x1
  exact ⟨E, ρ, _, e1, hd, fun ss hss vs H2 E2 g hvs => k _ hss _ H2 E2 ((Grow.of env x1).trans g fun p hp => XExt.free env x1 hp) ⟨E, ⟨fun _ z => z, g.dn (fun _ => e1.we) hv⟩, hvs⟩⟩
def kml (t : RL) (r : RA) : RA := fun ρ q => t ρ fun ds => r ρ fun ss => q (.ml ds :: ss)
theorem k_ml (ha : FD X e tl) (hr : KD X es tr) (hs : starEach (e :: es) X.env = (false, eval e X.env) :: starEach es X.env := by rfl) : KD X (e :: es) (kml tl tr) := fun F hF => (pa_cons (ha F hF) (hr F hF) hs).imp fun σ H Q => by
  rintro ⟨E, ρ, q, env, h, k⟩
  refine ⟨E, ρ, _, env, h, fun ds hd p xs H1 x1 hp hp' hda => ?_⟩
  have e1 := env.shut x1 hp ⟨_, hp'⟩
  refine ⟨plus E p, ρ, _, e1, hd, fun ss hss vs H2 E2 g hvs => k _ hss _ H2 E2 ?_ ⟨plus E p, ⟨fun _ z => .inl z, p, xs, rfl, .inr rfl, env.nE hp, g.sub p (.inr rfl), fun hB => env.nE hp (env.sub p hB), env.h0 hp, ?_, g.dna (fun _ => e1.we) hda⟩, hvs⟩⟩
  · exact (show Grow F E H (plus E p) H1 from ⟨x1, fun _ z => .inl z, fun b hb => hb.elim .inl fun z => .inr (z ▸ hp), e1.live⟩).trans g fun q hq => XExt.free env x1 hq
  · exact g.x.1 p _ hp' fun w => env.nE hp (env.we w)
def spar (i j : Nat) (ta : RA) : RS := fun Z ρ => ta ρ fun ss => match ss with
  | [s, t] => Z.nx ((ρ.set i (some s)).set j (some t))
  | _ => False
theorem s_par {i j : Nat} {x y : Str} {px py pt : Pos} {kt k2 pt2} (hc : X.calm = true) (hN : X.N.Nodup) (hi : X.N[i]? = some x) (hj : X.N[j]? = some y) (hij : i ≠ j)
    (hx : X.env.scope.names.lookup x = some .local) (hy : X.env.scope.names.lookup y = some .local) (ha : KD X [a, b] tr)
    (hw : swappedStores [.Tuple [.Name x px, .Name y py] kt pt] (.Tuple [a, b] k2 pt2) X.env = pure (some [x, y]))
    (hs : swapsWithSole [.Tuple [.Name x px, .Name y py] kt pt] (.Tuple [a, b] k2 pt2) pos.line X.env = pure false := by rfl) :
    SD X (.Assign [.Tuple [.Name x px, .Name y py] kt pt] (.Tuple [a, b] k2 pt2) pos) (spar i j tr) := fun F hF => (ps_par hc hN hi hj hij hx hy (ha F hF) hw hs).imp fun D_ σ H => by
  rintro ⟨E, ρ, Z, env, h, sv⟩
  refine ⟨E, ρ, _, env, h, fun ss hss vs H1 E1 g hvs => ?_⟩
  split at hss
  · rename_i s1 s2
    match vs, hvs with
    | [v1, v2], ⟨F1, n1, F2, n2, _⟩ =>
      obtain ⟨e1, o1⟩ := (env.grow g).put1 (i := i) env.ownIn n1
      obtain ⟨e2, _⟩ := e1.put1 (i := j) o1 n2
      exact ⟨v1, v2, rfl, sv.nx _ hss _ _ H1 e2⟩
    | [], hv => exact (show False from hv).elim
    | [_], ⟨_, _, hv⟩ => exact (show False from hv).elim
    | _ :: _ :: _ :: _, ⟨_, _, _, _, hv⟩ => exact (show False from hv).elim
  · exact hss.elim
def spar3 (i j l : Nat) (ta : RA) : RS := fun Z ρ => ta ρ fun ss => match ss with
  | [s, t, u] => Z.nx (((ρ.set i (some s)).set j (some t)).set l (some u))
  | _ => False
theorem s_par3 {i j l : Nat} {x y z : Str} {px py pz pt : Pos} {kt k2 pt2} (hc : X.calm = true) (hN : X.N.Nodup) (hi : X.N[i]? = some x) (hj : X.N[j]? = some y) (hl : X.N[l]? = some z) (hij : i ≠ j) (hil : i ≠ l) (hjl : j ≠ l)
    (hx : X.env.scope.names.lookup x = some .local) (hy : X.env.scope.names.lookup y = some .local) (hz : X.env.scope.names.lookup z = some .local) (ha : KD X [a, b, c] tr)
    (hw : swappedStores [.Tuple [.Name x px, .Name y py, .Name z pz] kt pt] (.Tuple [a, b, c] k2 pt2) X.env = pure (some [x, y, z]))
    (hs : swapsWithSole [.Tuple [.Name x px, .Name y py, .Name z pz] kt pt] (.Tuple [a, b, c] k2 pt2) pos.line X.env = pure false := by rfl) :
    SD X (.Assign [.Tuple [.Name x px, .Name y py, .Name z pz] kt pt] (.Tuple [a, b, c] k2 pt2) pos) (spar3 i j l tr) := fun F hF => (ps_par3 hc hN hi hj hl hij hil hjl hx hy hz (ha F hF) hw hs).imp fun D_ σ H => by
  rintro ⟨E, ρ, Z, env, h, sv⟩
  refine ⟨E, ρ, _, env, h, fun ss hss vs H1 E1 g hvs => ?_⟩
  split at hss
  · rename_i s1 s2 s3
    match vs, hvs with
    | [v1, v2, v3], ⟨F1, n1, F2, n2, F3, n3, _⟩ =>
      obtain ⟨e1, o1⟩ := (env.grow g).put1 (i := i) env.ownIn n1
      obtain ⟨e2, o2⟩ := e1.put1 (i := j) o1 n2
      obtain ⟨e3, _⟩ := e2.put1 (i := l) o2 n3
      exact ⟨v1, v2, v3, rfl, sv.nx _ hss _ _ H1 e3⟩
    | [], hv => exact (show False from hv).elim
    | [_], ⟨_, _, hv⟩ => exact (show False from hv).elim
    | [_, _], ⟨_, _, _, _, hv⟩ => exact (show False from hv).elim
    | _ :: _ :: _ :: _ :: _, ⟨_, _, _, _, _, _, hv⟩ => exact (show False from hv).elim
  · exact hss.elim
/-- a, b = e, e one tuple -/
def sunp (T : Tg) (te : RE) : RS := fun Z ρ => te ρ fun d => match T.put d ρ with
  | some ρ' => Z.nx ρ'
  | none => False
theorem s_unp {T : Tg} (he : ED X e ta) (hg : GD X tg T) (hs : swapsWithSole [tg] e pos.line X.env = pure false := by rfl) (hw : swappedStores [tg] e X.env = pure none := by rfl)
    (h1 : (assignEach [tg] X.env).map (·.2) = [assign tg X.env] := by rfl) : SD X (.Assign [tg] e pos) (sunp T ta) := fun F hF => (ps_asg (he F hF) hg hs hw h1).imp fun D_ σ H => by
  rintro ⟨E, ρ, Z, env, h, sv⟩
  refine ⟨E, ρ, _, env, h, fun d hd v H1 x1 hv => ?_⟩
  split at hd
  · rename_i ρ' hput
    rw [← hF]
    exact T.sem (env.step x1) hv hput fun σ' e' _ => sv.nx _ hd _ _ _ e'
  · exact hd.elim

/-! ### list comprehensions -/
def wipeR (ρ : Rho) : List Nat → Rho
  | [] => ρ
  | v :: vs => (wipeR ρ vs).set v none
theorem DEnv.wipe1 {F : Fx} {E : Addr → Prop} {σ : St} {H : Hp} {ρ : Rho} (e : DEnv F E σ H ρ) (i : Nat) : DEnv F E (σ.set i none) H (ρ.set i none) where
  fr := e.fr
  wb := e.wb
  sub := e.sub
  live := e.live
  so := e.so
  len := by rw [List.length_set, List.length_set]; exact e.len
  hl := e.hl
  sl := fun j s hs => by
    rcases set_get hs with ⟨ej, es, hl⟩ | ⟨hj, hs'⟩
    · cases es
    · obtain ⟨w, h1, h2⟩ := e.sl j s hs'
      exact ⟨w, by rw [List.getElem?_set_ne (Ne.symm hj)]; exact h1, h2⟩
  inj := fun j k s t w hj hk os ot wj wk => by
    rcases set_get hj with ⟨ej, es, hl⟩ | ⟨nj, hj'⟩
    · cases es
    rcases set_get hk with ⟨ek, es, hl⟩ | ⟨nk, hk'⟩
    · cases es
    rw [List.getElem?_set_ne (Ne.symm nj)] at wj
    rw [List.getElem?_set_ne (Ne.symm nk)] at wk
    exact e.inj j k s t w hj' hk' os ot wj wk
theorem DEnv.wipe {F : Fx} {E : Addr → Prop} {σ : St} {H : Hp} {ρ : Rho} (e : DEnv F E σ H ρ) : ∀ vs : List Nat, DEnv F E (L2.wipe σ vs) H (wipeR ρ vs)
  | [] => e
  | v :: vs => (DEnv.wipe e vs).wipe1 v
theorem wipe_get (σ : St) : ∀ (vs : List Nat) (j : Nat), (L2.wipe σ vs)[j]? = if j ∈ vs then (if j < σ.length then some none else none) else σ[j]?
  | [], j => by simp [L2.wipe]
  | v :: vs, j => by
    unfold L2.wipe
    by_cases e : j = v
    · subst e
      rw [if_pos List.mem_cons_self]
      by_cases hl : j < σ.length
      · rw [if_pos hl, List.getElem?_set_self (by rw [wipe_length]; exact hl)]
      · rw [if_neg hl, List.getElem?_eq_none (by rw [List.length_set, wipe_length]; omega)]
    · rw [List.getElem?_set_ne (Ne.symm e), wipe_get σ vs j]
      by_cases hm : j ∈ vs
      · rw [if_pos hm, if_pos (List.mem_cons_of_mem _ hm)]
      · rw [if_neg hm, if_neg (fun z => (List.mem_cons.mp z).elim e hm)]
theorem wipe_same {σ σ' : St} {is vs : List Nat} (h : SameBut is (L2.wipe σ vs) σ') (hs : ∀ i ∈ is, i ∈ vs) : L2.wipe σ' vs = L2.wipe σ vs := by
  apply List.ext_getElem?
  intro j
  rw [wipe_get, wipe_get]
  have hl : σ'.length = σ.length := by rw [h.1, wipe_length]
  by_cases hm : j ∈ vs
  · rw [if_pos hm, if_pos hm, hl]
  · rw [if_neg hm, if_neg hm, h.2 j (fun z => hm (hs j z)), wipe_get, if_neg hm]
/-- a write at an address that no slot has -/
theorem DEnv.poke {F : Fx} {E : Addr → Prop} {σ : St} {H : Hp} {ρ : Rho} (e : DEnv F E σ H ρ) {p : Addr} {o : HO} (hE : E p) (nB : ¬ F.B p) (h0 : F.H0 p = none) (hn : ∀ (j : Nat) s, ρ[j]? = some (some s) → s.own = true → σ[j]? ≠ some (some (.ref p))) : DEnv F E σ (upd H p o) ρ := by
  have fe : FExt E H (upd H p o) := fun b u q hb => by rw [upd_ne (fun z : b = p => hb (by rw [z]; exact hE))]; exact q
  have ks : ∀ b u, b ≠ p → H b = some u → upd H p o b = some u := fun b u hb q => by rw [upd_ne hb]; exact q
  have nW : ¬ F.W p := fun w => nB (e.wb p w)
  exact {
    fr := fun b u q w => by
      have nb : b ≠ p := fun z => by subst z; rw [h0] at q; cases q
      exact ks b u nb (e.fr b u q w)
    wb := e.wb
    sub := e.sub
    live := fun b hb => by
      by_cases z : b = p
      · subst z; exact ⟨_, upd_same⟩
      · obtain ⟨u, q⟩ := e.live b hb
        exact ⟨u, ks b u z q⟩
    so := e.so.of fun b u w q => ks b u (fun z => nW (z ▸ w)) q
    len := e.len
    hl := fun q hq => Dn.ext fe _ _ (e.hl q hq)
    sl := fun j s hs => by
      obtain ⟨w, h1, h2⟩ := e.sl j s hs
      refine ⟨w, h1, ?_⟩
      cases s with
      | im d => exact Dn.ext fe _ _ h2
      | ml fs =>
        obtain ⟨c, zs, ev, hEc, hBc, h0c, hc, hac⟩ := h2
        have nc : c ≠ p := fun z => by
          subst ev
          subst z
          exact hn j _ hs rfl h1
        exact ⟨c, zs, ev, hEc, hBc, h0c, ks c _ nc hc, DnA.ext fe _ _ hac⟩
      | md fs gs =>
        obtain ⟨c, us, ws, ev, hEc, hBc, h0c, hc, hac, hbc⟩ := h2
        have nc : c ≠ p := fun z => by
          subst ev
          subst z
          exact hn j _ hs rfl h1
        exact ⟨c, us, ws, ev, hEc, hBc, h0c, hc.at (fun o q => ks c o nc q), DnA.ext fe _ _ hac, DnA.ext fe _ _ hbc⟩
      | src => exact h2
    inj := e.inj }
def lcdo (T : Tg) (tt : RT) (te : RE) (ρ : Rho) : List D → List D → (List D → Prop) → Prop
  | [], acc, q => q acc
  | d :: ds, acc, q => match T.put d ρ with
    | some ρ' => tt ρ' fun b => if b = true then te ρ' fun y => acc.length < sizeLine ∧ lcdo T tt te ρ ds (acc ++ [y]) q else lcdo T tt te ρ ds acc q
    | none => False
/-- [te for T in w if tt] -/
def flc (w : RL) (vs : List Nat) (T : Tg) (tt : RT) (te : RE) : RL := fun ρ q => w ρ fun ds => lcdo T tt te (wipeR ρ vs) ds [] q
/-- the tests of a comprehension -/
def TsD (X : Cx) (ifs : List Expr) (t : RT) : Prop := ∀ F : Fx, F.K = X.K → PTs X ifs (liftT F t)
def dyes : RT := fun _ q => q true
theorem _root_.L2.PTs.imp {X : Cx} {e : List Expr} {t u : TT} (h : PTs X e t) (k : ∀ σ H Q, u σ H Q → t σ H Q) : PTs X e u := ⟨fun pins s σ H Q I q => h.run pins s σ H Q I (k _ _ _ q)⟩
theorem ts_nil : TsD X [] dyes := fun F hF => pts_nil.imp fun σ H Q => by
  rintro ⟨E, ρ, q, env, h, k⟩
  exact k _ h H (XExt.refl env.so)
theorem ts_one {t : RT} (h : TD X c t) : TsD X [c] t := fun F hF => pts_one (h F hF)
theorem lc_ {F : Fx} {vs : List Nat} {T : Tg} {tt : RT} (hT : ∀ i ∈ T.slots, i ∈ vs) (σ : St) (H : Hp) (Q : VK) (h : liftF F (flc w vs T tt te) σ H Q) :
    tLc (liftI F w) (T.g F.K) (fun σ H Q => ∃ v d, liftT (F.hold v d) tt σ H Q) (fun σ H Q => ∃ v d, liftE (F.hold v d) te σ H Q) vs σ H Q := by
  obtain ⟨E, ρ, q, env, h, k⟩ := h
  refine ⟨E, ρ, _, env, h, fun ds hds J H1 hv hd x1 hdn wk D hD => ?_⟩
  have W := wk (F.hold hv hd) rfl rfl
  have e1 := env.step x1
  have e1h := e1.hold hdn
  have xD : XExt (F.hold hv hd) H1 (upd H1 D (.lst [])) := XExt.new e1h.so hD
  have e2 : DEnv (F.hold hv hd) (plus E D) σ (upd H1 D (.lst [])) ρ := e1h.shut xD hD ⟨_, upd_same⟩
  have nED : ¬ E D := e1.nE hD
  have hD0 : H D = none := XExt.free env x1 hD
  have nBD : ¬ F.B D := fun hB => nED (e1.sub D hB)
  have h0D : F.H0 D = none := e1.h0 hD
  have nWD : ¬ F.W D := fun w => nED (e1.we w)
  have noSlot : ∀ (j : Nat) s, (wipeR ρ vs)[j]? = some (some s) → s.own = true → (L2.wipe σ vs)[j]? ≠ some (some (.ref D)) := fun j s hs os q => nED ((e1.wipe vs).ownIn j s D hs os q)
  refine ⟨fun i m H => m = ds.length - i ∧ i ≤ ds.length ∧ FExt F.W H1 H ∧ DEnv (F.hold hv hd) (plus E D) (L2.wipe σ vs) H (wipeR ρ vs) ∧ ∃ acc xs, H D = some (.lst xs) ∧ DnA F.K (plus E D) H acc xs ∧ lcdo T tt te (wipeR ρ vs) (ds.drop i) acc q,
    ⟨ds.length, rfl, Nat.zero_le _, xD.1, e2.wipe vs, [], [], upd_same, rfl, hds⟩, ?_⟩
  rintro i m H ⟨rfl, hi, fx, env, acc, xs, hDx, hacc, hr⟩
  obtain ⟨w1, w2⟩ := W (plus E D) H env.at_ env.heldAt
  by_cases hlt : i < ds.length
  · have hget : ds[i]? = some ds[i] := List.getElem?_eq_getElem hlt
    rw [List.drop_eq_getElem_cons hlt] at hr
    obtain ⟨hgo, hy⟩ := w1 i _ hget
    unfold lcdo at hr
    split at hr
    · rename_i ρ' hput
      refine .inr ⟨hgo, fun H' => FExt F.W H1 H' ∧ DEnv (F.hold hv hd) (plus E D) (L2.wipe σ vs) H' (wipeR ρ vs) ∧ ∃ acc xs, H' D = some (.lst xs) ∧ DnA F.K (plus E D) H' acc xs ∧ lcdo T tt te (wipeR ρ vs) (ds.drop (i + 1)) acc q,
        fun H' z => ⟨_, Nat.sub_lt_sub_left hlt (Nat.lt_succ_self i), rfl, hlt, z⟩, fun x H2 hx => ?_⟩
      obtain ⟨sm, dx⟩ := hy x H2 hx
      have x2 : XExt (F.hold hv hd) H H2 := XExt.same env.so sm
      have env2 := env.step x2
      refine Tg.sem (F := F.hold hv hd) T env2 dx hput fun σ2 e3 sb => ⟨wipe_same sb hT, ?_⟩
      refine ⟨hv, hd, plus E D, ρ', _, e3, hr, fun b hb H3 x3 => ?_⟩
      have e4 := e3.step x3
      cases b with
      | true =>
        rw [if_pos rfl] at hb
        show if true = true then _ else _
        rw [if_pos rfl]
        refine ⟨hv, hd, plus E D, ρ', _, e4, hb, fun y hy v H4 x4 hvy => ?_⟩
        have x24 : XExt (F.hold hv hd) H H4 := x2.trans (x3.trans x4)
        have hD4 : H4 D = some (.lst xs) := x24.1 D _ hDx nWD
        have env4 := env.step x24
        have hacc4 : DnA F.K (plus E D) H4 acc xs := env.dna x24 hacc
        refine ⟨xs, hD4, by rw [hacc.len]; exact hy.1, ?_, ?_, acc ++ [y], xs ++ [v], upd_same, ?_, hy.2⟩
        · have f4 : FExt F.W H1 H4 := fx.trans x24.1
          exact fun b u qb w => by rw [upd_ne (ne_of_none qb hD)]; exact f4 b u qb w
        · exact env4.poke (.inr rfl) nBD h0D noSlot
        · have fe : FExt (plus E D) H4 (upd H4 D (.lst (xs ++ [v]))) := fun b u q hb => by rw [upd_ne (fun z : b = D => hb (.inr z))]; exact q
          exact DnA.ext fe _ _ (hacc4.app (DnA.one hvy))
      | false =>
        rw [if_neg Bool.false_ne_true] at hb
        show if false = true then _ else _
        rw [if_neg Bool.false_ne_true]
        have x23 : XExt (F.hold hv hd) H H3 := x2.trans x3
        exact ⟨fx.trans x23.1, env.step x23, acc, xs, x23.1 D _ hDx nWD, env.dna x23 hacc, hb⟩
    · exact hr.elim
  · have hil : i = ds.length := by omega
    rw [hil, List.drop_length] at hr
    refine .inl ⟨w2 i (by omega), k acc hr D xs H ⟨x1.1.trans fx, env.so⟩ hD0 hDx hacc⟩
theorem f_lc {scope : Scope} {own : List (Str × Nat)} {T : Tg} {tt : RT} (hc : X.calm = true) (hN : X.N.Nodup) (hi : ID X tg iter w) (ok : BlkOk X.N X.env.scope scope own) (hT : ∀ i ∈ T.slots, i ∈ own.map (·.2))
    (hg : ∀ (s : Shared) (H : Hp) (C : Addr) (cl : List (Str × Addr)) (fp : List Addr), GD (X.blk s H scope (compEnvC scope cl C X.env) fp) tg T) (ht : ∀ (s : Shared) (H : Hp) (C : Addr) (cl : List (Str × Addr)) (fp : List Addr), TsD (X.blk s H scope (compEnvC scope cl C X.env) fp) ifs tt)
    (he : ∀ (s : Shared) (H : Hp) (C : Addr) (cl : List (Str × Addr)) (fp : List Addr), ED (X.blk s H scope (compEnvC scope cl C X.env) fp) elt te) (hs : ∀ x, foldedSetIterable iter X.env x = pure x := by intro _; rfl) :
    FD X (.ListComp elt [⟨tg, iter, ifs, 0⟩] scope pos) (flc w (own.map (·.2)) T tt te) := fun F hF =>
  (pe_lc (g := T.g X.K) (tt := fun σ H Q => ∃ v d, liftT (F.hold v d) tt σ H Q) (te := fun σ H Q => ∃ v d, liftE (F.hold v d) te σ H Q) hc hN (hi F hF) ok (fun s H C cl fp => hg s H C cl fp)
    (fun s H C cl fp => ⟨fun pins s' σ H' Q I ⟨v, d, q⟩ => (ht s H C cl fp (F.hold v d) hF).run pins s' σ H' Q I q⟩)
    (fun s H C cl fp => ⟨fun pins s' σ H' Q I ⟨v, d, q⟩ => (he s H C cl fp (F.hold v d) hF).run pins s' σ H' Q I q⟩) hs).imp fun σ H Q h => by
  have := lc_ hT σ H Q h
  rw [hF] at this
  exact this
/-- a new list as shared data -/
def flst_ (t : RL) : RE := fun ρ q => t ρ fun ds => q (.lst ds)
theorem f_e (h : FD X e tl) : ED X e (flst_ tl) := fun F hF => (h F hF).imp fun σ H Q => by
  rintro ⟨E, ρ, q, env, h, k⟩
  refine ⟨E, ρ, _, env, h, fun ds hd p xs H1 x1 hp hp' ha => ?_⟩
  exact k _ hd _ H1 x1 ⟨p, xs, rfl, ⟨env.nE hp, hp'⟩, DnA.less (fun _ => .inl) _ _ ha⟩
/-- x = [..] in one line -/
theorem s_ownLc {i : Nat} {y : Str} {py spos : Pos} {scope : Scope} {own : List (Str × Nat)} {T : Tg} {tt : RT} (hc : X.calm = true) (hN : X.N.Nodup) (hy : X.N[i]? = some y) (hyl : X.env.scope.names.lookup y = some .local)
    (hsw : swapsWith (.ListComp elt [⟨tg, iter, ifs, 0⟩] scope pos) (some (.Name y py)) spos.line X.env = pure true) (hi : ID X tg iter w) (ok : BlkOk X.N X.env.scope scope own) (hT : ∀ i ∈ T.slots, i ∈ own.map (·.2))
    (hg : ∀ (s : Shared) (H : Hp) (C : Addr) (cl : List (Str × Addr)) (fp : List Addr), GD (X.blk s H scope (compEnvC scope cl C X.env) fp) tg T) (ht : ∀ (s : Shared) (H : Hp) (C : Addr) (cl : List (Str × Addr)) (fp : List Addr), TsD (X.blk s H scope (compEnvC scope cl C X.env) fp) ifs tt)
    (he : ∀ (s : Shared) (H : Hp) (C : Addr) (cl : List (Str × Addr)) (fp : List Addr), ED (X.blk s H scope (compEnvC scope cl C X.env) fp) elt te) (hs : ∀ x, foldedSetIterable iter X.env x = pure x := by intro _; rfl) :
    SD X (.Assign [.Name y py] (.ListComp elt [⟨tg, iter, ifs, 0⟩] scope pos) spos) (sown i (flc w (own.map (·.2)) T tt te)) := fun F hF =>
  (ps_setLc (g := T.g X.K) (tt := fun σ H Q => ∃ v d, liftT (F.hold v d) tt σ H Q) (te := fun σ H Q => ∃ v d, liftE (F.hold v d) te σ H Q) hc hN hy hyl hsw (hi F hF) ok (fun s H C cl fp => hg s H C cl fp)
    (fun s H C cl fp => ⟨fun pins s' σ H' Q I ⟨v, d, q⟩ => (ht s H C cl fp (F.hold v d) hF).run pins s' σ H' Q I q⟩)
    (fun s H C cl fp => ⟨fun pins s' σ H' Q I ⟨v, d, q⟩ => (he s H C cl fp (F.hold v d) hF).run pins s' σ H' Q I q⟩) hs).imp fun D_ σ H => by
  rintro ⟨E, ρ, Z, env, h, sv⟩
  have := lc_ (F := F) (Q := fun x H1 => gName i x σ H1 D_.nx) hT σ H ⟨E, ρ, _, env, h, fun ds hd p xs H1 x1 hp hp' ha => ?_⟩
  · rw [hF] at this
    exact this
  · have e1 := env.shut x1 hp ⟨_, hp'⟩
    exact sv.nx _ hd _ _ H1 (env.own e1 (.inr rfl) (env.nE hp) (env.h0 hp) hp' ha)
theorem s_setLc {i : Nat} {y : Str} {py spos : Pos} {scope : Scope} {own : List (Str × Nat)} {T : Tg} {tt : RT} (hc : X.calm = true) (hN : X.N.Nodup) (hy : X.N[i]? = some y) (hyl : X.env.scope.names.lookup y = some .local)
    (hsw : swapsWith (.ListComp elt [⟨tg, iter, ifs, 0⟩] scope pos) (some (.Name y py)) spos.line X.env = pure true) (hi : ID X tg iter w) (ok : BlkOk X.N X.env.scope scope own) (hT : ∀ i ∈ T.slots, i ∈ own.map (·.2))
    (hg : ∀ (s : Shared) (H : Hp) (C : Addr) (cl : List (Str × Addr)) (fp : List Addr), GD (X.blk s H scope (compEnvC scope cl C X.env) fp) tg T) (ht : ∀ (s : Shared) (H : Hp) (C : Addr) (cl : List (Str × Addr)) (fp : List Addr), TsD (X.blk s H scope (compEnvC scope cl C X.env) fp) ifs tt)
    (he : ∀ (s : Shared) (H : Hp) (C : Addr) (cl : List (Str × Addr)) (fp : List Addr), ED (X.blk s H scope (compEnvC scope cl C X.env) fp) elt te) (hs : ∀ x, foldedSetIterable iter X.env x = pure x := by intro _; rfl) :
    SD X (.Assign [.Name y py] (.ListComp elt [⟨tg, iter, ifs, 0⟩] scope pos) spos) (sset i (flst_ (flc w (own.map (·.2)) T tt te))) := fun F hF =>
  (ps_setLc (g := T.g X.K) (tt := fun σ H Q => ∃ v d, liftT (F.hold v d) tt σ H Q) (te := fun σ H Q => ∃ v d, liftE (F.hold v d) te σ H Q) hc hN hy hyl hsw (hi F hF) ok (fun s H C cl fp => hg s H C cl fp)
    (fun s H C cl fp => ⟨fun pins s' σ H' Q I ⟨v, d, q⟩ => (ht s H C cl fp (F.hold v d) hF).run pins s' σ H' Q I q⟩)
    (fun s H C cl fp => ⟨fun pins s' σ H' Q I ⟨v, d, q⟩ => (he s H C cl fp (F.hold v d) hF).run pins s' σ H' Q I q⟩) hs).imp fun D_ σ H => by
  rintro ⟨E, ρ, Z, env, h, sv⟩
  have := lc_ (F := F) (Q := fun x H1 => gName i x σ H1 D_.nx) hT σ H ⟨E, ρ, _, env, h, fun ds hd p xs H1 x1 hp hp' ha => ?_⟩
  · rw [hF] at this
    exact this
  · exact sv.nx _ hd E _ H1 ((env.step x1).set ⟨p, xs, rfl, ⟨env.nE hp, hp'⟩, DnA.less (fun _ => .inl) _ _ ha⟩)
end
end DL

set_option Elab.async false
set_option linter.all false
set_option maxRecDepth 100000
set_option maxHeartbeats 4000000
/-! enumerate of a tuple, of a list, from any start -/
namespace DL
open PySem L2 PyProof.Rows
theorem enum_new1 {v : Value} {o : Obj} {H : Heap → Prop} (B : Begins v o H) :
    Meets (Builtin.«enumerate.__new__» ⟨[.type "enumerate", v], []⟩) (fun _ R s => H s.heap ∧
      R (.ok (.ret (.ref (s.heap.push o).objs.size))) { s with heap := (s.heap.push o).push { cls := .type "enumerate", data := .fields #[.none, .bool false, .ref s.heap.objs.size, rawInt 0, .none, .none] } }) :=
  .of_wp fun prog w A R s h => by
    obtain ⟨hp, g, d, tk, os⟩ := s; obtain ⟨h1, h⟩ := h
    have hsub := sub_enumerate
    have q1 : ∀ {A' : Around} {E : Value → Shared → Prop} {Q : Value → Shared → Prop}, Q (.ref hp.objs.size) ⟨hp.push o, g, d, tk, os⟩ → wpAny (model prog w) A' (pyIter v) Q E ⟨hp, g, d, tk, os⟩ :=
      fun q => B.iter prog w _ _ ⟨hp, g, d, tk, os⟩ _ h1 q
    wp_walk using q1
    refine wpAny_stack_any fun st => wpAny_pure ?_
    split
    · rename_i c _ _ _ _ _
      cases (c == Value.type "enumerate")
      · wp_walk using q1
        exact ⟨_, rfl, h⟩
      · wp_walk using q1
        exact ⟨_, rfl, h⟩
    · wp_walk using q1
      exact ⟨_, rfl, h⟩
theorem enum_begins1 {prog : Program} {w : World} {A : Around} {E : Value → Shared → Prop} {s : Shared} {v : Value} {o : Obj} {H : Heap → Prop} {Q : Value → Shared → Prop} (B : Begins v o H) (h1 : H s.heap)
    (h : ∀ h', IsEnum h' (s.heap.objs.size + 1) s.heap.objs.size 0 .none → h'.get? s.heap.objs.size = some o → h'.objs.size = s.heap.objs.size + 2 →
      (∀ b o, s.heap.get? b = some o → h'.get? b = some o) → Q (.ref (s.heap.objs.size + 1)) { s with heap := h' }) :
    wpAny (model prog w) A (call (.type "enumerate") [v]) Q E s := by
  refine callType_new F.called_enumerate (by decide) (F.typeCall_enumerate_1 _) (F.newCall_enumerate_1 _) (fun obj => F.args_object_init_2 obj _) F.entry_enumerate_new
    (enum_new1 B) ⟨h1, ?_⟩
  have hz : (s.heap.push o).objs.size = s.heap.objs.size + 1 := Heap.size_push ..
  show _ ∧ _
  rw [hz]
  have he : IsEnum ((s.heap.push o).push { cls := .type "enumerate", data := .fields #[.none, .bool false, .ref s.heap.objs.size, rawInt 0, .none, .none] }) (s.heap.objs.size + 1) s.heap.objs.size 0 .none := by
    have := Heap.get?_push_size (s.heap.push o) (o := { cls := .type "enumerate", data := .fields #[.none, .bool false, .ref s.heap.objs.size, rawInt 0, .none, .none] }) rfl
    rw [hz] at this; exact this
  refine ⟨⟨_, he, rfl⟩, h _ he (Heap.get?_push_of_some _ (Heap.get?_push_size _ B.free)) (by rw [Heap.size_push, hz]) fun b o x => Heap.get?_push_of_some _ (Heap.get?_push_of_some _ x)⟩
/-- the tuple at a, each item in a new pair with its number from k on -/
def ItE (K : PySem.W.Frag) (k : Int) (a : Addr) : It :=
  ⟨fun i H => ∃ (xs : List V) (x : V), SqT K H a xs ∧ xs[i]? = some x, fun i H v H' => ∃ T x, v = .ref T ∧ H T = none ∧ H' = upd H T (.tup [.int (k + (i : Nat)), x]) ∧ ∀ xs, SqT K H a xs → xs[i]? = some x, fun i H => ∃ xs : List V, SqT K H a xs ∧ xs.length ≤ i⟩
theorem turn_enumT {P : Program} {w : World} {K : PySem.W.Frag} {elts : List Expr} {kk : Nat} {tpos : Pos} (k : Int) (a e it : Addr) :
    Turn P w K (.Tuple elts kk tpos) (ItE K k a) [e, it] e (fun i h => (∃ old, IsEnum h e it (k + (i : Nat)) old) ∧ h.IsTupleIter it a i ∧ e ≠ it) where
  mem := by simp
  obj := fun i h st b hb => by
    obtain ⟨⟨old, he⟩, ⟨o, ho, hc, hd⟩, _⟩ := st
    have e' : b = e ∨ b = it := by simpa using hb
    rcases e' with z | z
    · rw [z]; exact ⟨_, he, fun v q => nomatch q⟩
    · rw [z]; exact ⟨o, ho, fun v q => by rw [hd] at q; cases q⟩
  keep := fun i h h' st k => let ⟨⟨old, he⟩, hi, hne⟩ := st; ⟨⟨old, k e (by simp) _ he⟩, hi.at fun o q => k it (by simp) o q, hne⟩
  item := by
    intro X hP hw hK hc i pins s σ H E I hf st hg
    subst hP hw hK
    obtain ⟨⟨old, he⟩, hit, hne⟩ := st
    obtain ⟨xs, x, hq, hx⟩ := hg
    obtain ⟨its, rv, p, hz⟩ := I.tuple hq
    obtain ⟨u, hu, ru⟩ := rv.get hx
    have pt : s.heap.IsTuple a its.toArray := p
    have hel : e < s.heap.objs.size := Heap.lt_size he
    have hil : it < s.heap.objs.size := by obtain ⟨_, q, _⟩ := hit; exact Heap.lt_size q
    have hti : a ≠ it := fun z => by
      obtain ⟨o, q, _, d⟩ := hit
      obtain ⟨o', q', _, n, d'⟩ := p
      rw [z, q] at q'; cases q'; rw [d] at d'; cases d'
    have hei : e ∉ ([it, a] : List Addr) := fun z => by
      have z' : e = it ∨ e = a := by simpa using z
      rcases z' with z' | z'
      · exact hne z'
      · obtain ⟨o', q', _, n, d'⟩ := p
        have he' : s.heap.get? e = _ := he
        rw [z', q'] at he'; cases he'; cases d'
    have hin : i < its.toArray.size := by
      have := (List.getElem?_eq_some_iff.mp hu).1
      simpa using this
    refine wpAny_pyNext_enum_itemC (Draws.tuple (A := X.A.in1) (show X.A.in1.handled = none from I.ok.hd hc) it a hti its.toArray) he ⟨hit, pt⟩ hin hne hei fun x' h' tk hx' ho hit' hT hsz hk => ?_
    have ex : x' = u := by
      have h1 : its.toArray[i]? = some u := by simpa using hu
      rw [h1] at hx'
      exact (Option.some.inj hx').symm
    subst ex
    refine ⟨_, rfl, wpAny_letOwnedTupleGo_enum (s := { s with heap := h', toks := tk + 1 }) ho fun h'' he' sb => ?_⟩
    have hT2 : h''.get? s.heap.objs.size = some { cls := .type "tuple", data := .seq #[.int (k + (i : Nat)) tk, x'] } := (sb.2 _ (Nat.ne_of_gt hel)).trans hT
    have new : ObjOk X.prog X.w (upd H s.heap.objs.size (.tup [.int (k + (i : Nat)), x])) h'' s.heap.objs.size (.tup [.int (k + (i : Nat)), x]) :=
      ⟨by show 2 ≤ sizeLine; decide, [.int (k + (i : Nat)) tk, x'], .cons ⟨_, rfl⟩ (.cons ru .nil), ⟨_, hT2, rfl, _, rfl⟩⟩
    have I1 : Inv X pins σ (upd H s.heap.objs.size (.tup [.int (k + (i : Nat)), x])) { s with heap := h'', toks := tk + 1 } :=
      I.turnedNew (ch := [e, it]) (fun b ob hb q => (sb.2 b (fun z => hb (by simp [z]))).trans (hk b ob (fun z => hb (by simp [z])) (fun z => hb (by simp [z])) q)) hf (Nat.le_refl _) new
    refine ⟨.ref s.heap.objs.size, _, I1, rfl, ⟨_, x, rfl, I.hok.fresh (Nat.le_refl _), rfl, fun ys hy => by rw [I.tuple_inj hy hq]; exact hx⟩, ⟨⟨x', ?_⟩, hit'.1.at fun o q => (sb.2 it (Ne.symm hne)).trans q, hne⟩, fun b hb => ?_⟩
    · have e1 : k + ((i + 1 : Nat) : Int) = k + (i : Int) + 1 := by omega
      rw [e1]; exact he'
    · have hb' : b < s.heap.objs.size := by
        have e' : b = e ∨ b = it := by simpa using hb
        rcases e' with z | z
        · rw [z]; exact hel
        · rw [z]; exact hil
      rw [upd_ne (Nat.ne_of_lt hb')]
      exact (hf b hb).1
  done := by
    intro X hP hw hK hc i pins s σ H E I hf st hg
    subst hP hw hK
    obtain ⟨⟨old, he⟩, hit, hne⟩ := st
    obtain ⟨xs, hq, hx⟩ := hg
    obtain ⟨its, rv, p, hz⟩ := I.tuple hq
    obtain ⟨f0, f1, f2, f3, f4, f5⟩ := hf it (by simp)
    have hl := rv.length
    have pt : s.heap.IsTuple a its.toArray := p
    have hT : s.TypeIs (.ref e) "enumerate" := ⟨_, he, rfl⟩
    unfold pyNext
    refine wpAny_bind (wpAny_attempt (wpAny_callSpecial?_slot (name := Str.ofString "__next__") hT F.slot_enumerate_next
      (wpAny_call_entry F.slot_enumerate_next hT F.entry_enumerate_next ?_ (F.args_enumerate_next_1 _))))
    show wpAny _ _ (field (.ref e) 2 >>= _) _ _ _
    refine wpAny_bind (wpAny_field he rfl (x := .ref it) rfl ?_)
    refine wpAny_bind (wpAny_nextOf_tuple_end (show X.A.in1.handled = none from I.ok.hd hc) hit pt (by simp; omega) fun h' x he' hx' => ?_)
    obtain ⟨o, ho, hcl⟩ := hx'
    refine wpAny_bind (wpAny_isInstance (T := "StopIteration") (b := true) ⟨o, ho, hcl⟩ isSubtype_stop ?_)
    exact wpAny_pure ⟨rfl, I.turned (t' := s.toks) (fun b o hb q => he' b o hb q) f0 f1 f3 f4 f5⟩
  self := fun A i s Q E st h => let ⟨⟨_, he⟩, _⟩ := st; wpAny_pyIter_enum he h

/-- enumerate(t), t a tuple -/
def iEnumT (K : PySem.W.Frag) (ta : TA) : TI := fun σ H R => ta σ H fun vs H1 => ∃ a xs, vs = [.ref a] ∧ SqT K H1 a xs ∧ R (ItE K 0 a) H1
theorem pi_enumT {X : Cx} {e : Expr} {ta : TA} {p pos tpos : Pos} {elts : List Expr} {kk : Nat} (hg : Gl X "enumerate") (hm : X.mg "enumerate" = none) (ha : PA X [e] ta) (hs : starEach [e] X.env = [(false, eval e X.env)] := by rfl) :
    PI X (.Tuple elts kk tpos) (.Call (.Name "enumerate" p) [e] [] pos) (iEnumT X.K ta) := by
  refine ⟨fun pins s σ H R I h => ?_⟩
  refine Call_ (ld_blt I hg hm boot_enumerate (PyProof.Rows.callWith_type1 (thn (ha.run pos pins s σ H _ I h) fun us s1 ⟨vs, H1, I1, r1, q1⟩ => ?_) hs rfl))
  obtain ⟨a, xs, ex, hq, q⟩ := q1
  subst ex
  cases r1 with
  | cons r rr =>
    cases rr
    cases r
    obtain ⟨its, rv, p', hz⟩ := I1.tuple hq
    have pt : s1.heap.IsTuple a its.toArray := p'
    refine enum_begins1 (begins_tuple a its.toArray) pt fun h' he hit hsz hk => wpAny_pyIter_enum he ?_
    have I2 : Inv X pins σ H1 { s1 with heap := h' } := I1.kept (t' := s1.toks) hk
    refine ⟨s1.heap.objs.size + 1, [s1.heap.objs.size + 1, s1.heap.objs.size], _, _, H1, rfl, I2, turn_enumT 0 a (s1.heap.objs.size + 1) s1.heap.objs.size, ⟨⟨.none, he⟩, ⟨_, hit, rfl, rfl⟩, Nat.succ_ne_self _⟩, fun b hb => ?_, q⟩
    have e' : b = s1.heap.objs.size + 1 ∨ b = s1.heap.objs.size := by simpa using hb
    have hle : s1.heap.objs.size ≤ b := by
      rcases e' with z | z
      · rw [z]; exact Nat.le_add_right _ _
      · rw [z]; exact Nat.le_refl _
    exact I1.fpOk hle (I1.hok.fresh hle)
def pairs (k : Int) : List D → List D
  | [] => []
  | d :: ds => .tup [.int k, d] :: pairs (k + 1) ds
theorem pairs_get : ∀ {ds : List D} {k : Int} {i : Nat} {d : D}, (pairs k ds)[i]? = some d → ∃ e, ds[i]? = some e ∧ d = .tup [.int (k + (i : Nat)), e]
  | [], _, _, _, h => by simp [pairs] at h
  | e :: ds, k, 0, d, h => by
    simp [pairs] at h
    exact ⟨e, rfl, by rw [← h]; simp⟩
  | e :: ds, k, i + 1, d, h => by
    obtain ⟨e', h1, h2⟩ := pairs_get (ds := ds) (k := k + 1) (i := i) (d := d) (by simpa [pairs] using h)
    refine ⟨e', by simpa using h1, ?_⟩
    rw [h2]
    have : k + 1 + (i : Int) = k + ((i + 1 : Nat) : Int) := by omega
    rw [this]
theorem pairs_len : ∀ (ds : List D) (k : Int), (pairs k ds).length = ds.length
  | [], _ => rfl
  | d :: ds, k => by rw [pairs, List.length_cons, List.length_cons, pairs_len ds]
def ienum (t : RE) : RL := fun ρ q => t ρ fun d => match d with
  | .tup ds => q (pairs 0 ds)
  | _ => False
theorem i_enum {X : Cx} {e : Expr} {ta : RE} {p pos tpos : Pos} {elts : List Expr} {kk : Nat} (hg : Gl X "enumerate") (hm : X.mg "enumerate" = none) (ha : ED X e ta) (hs : starEach [e] X.env = [(false, eval e X.env)] := by rfl)
    (hs' : starEach [e] X.env = (false, eval e X.env) :: starEach [] X.env := by rfl) : ID X (.Tuple elts kk tpos) (.Call (.Name "enumerate" p) [e] [] pos) (ienum ta) := fun F hF =>
  (pi_enumT hg hm (pa_cons (ha F hF) pa_nil hs') hs).imp fun σ H R => by
  rintro ⟨E, ρ, q, env, h, k⟩
  refine ⟨E, ρ, _, env, h, fun d hd v H1 x1 hv => ?_⟩
  split at hd
  · rename_i ds
    obtain ⟨a, xs, rfl, l, g⟩ := id hv
    refine ⟨a, xs, rfl, by rw [← hF]; exact l.sq, k _ hd _ H1 _ (.tup ds) x1 hv fun G hK hS E' H' at_ hv' => ?_⟩
    obtain ⟨a', ys, e', l', g'⟩ := hv'
    cases e'
    have sq : SqT X.K H' a ys := by rw [← hF, ← hK]; exact l'.sq
    refine ⟨fun i d hi => ?_, fun i hi => ⟨ys, sq, by rw [g'.len]; rw [pairs_len] at hi; exact hi⟩⟩
    obtain ⟨e, he, rfl⟩ := pairs_get hi
    obtain ⟨x, hx, dx⟩ := g'.get he
    refine ⟨⟨ys, x, sq, hx⟩, fun y H2 hy => ?_⟩
    obtain ⟨T, x', rfl, hT, rfl, hy⟩ := hy
    have := hy ys sq
    rw [hx] at this; cases this
    refine ⟨fun b o q => by rw [upd_ne (ne_of_none q hT)]; exact q, ?_⟩
    exact at_.tup hT ⟨_, _, rfl, rfl, _, _, rfl, dx, rfl⟩
  · exact hd.elim
end DL

set_option Elab.async false
set_option linter.all false
set_option maxRecDepth 100000
set_option maxHeartbeats 4000000
namespace DL
open PySem L2
/-! ### what the top has left -/
/-- a def of the text, called by its name -/
def Def1 (K : PySem.W.Frag) (mg : Str → Option Value) (x : Str) (st : Stmt) (ps : List Str) (n : Str := x) : Prop := ∃ f fd, Fun K n n st f fd ∧ mg x = some (.ref f) ∧ Binds K fd ps []
/-- .. and what it means -/
def Cal (P : Program) (w : World) (K : PySem.W.Frag) (mg : Str → Option Value) (base : Heap) (x : Str) (k n : Nat) (tf : RF) : Prop :=
  ∃ f fd ps, ps.length = n ∧ FnOk P w K mg base CX0 k f fd ps (spD K n tf) ∧ mg x = some (.ref f) ∧ PySem.W.keepIn K (.ref f) = true ∧ Binds K fd ps []
theorem Cal.mono {P : Program} {w : World} {K : PySem.W.Frag} {mg : Str → Option Value} {base : Heap} {x : Str} {j k n : Nat} {tf : RF} (h : Cal P w K mg base x j n tf) (l : j ≤ k) : Cal P w K mg base x k n tf := by
  obtain ⟨f, fd, ps, h1, h2, h3⟩ := h
  exact ⟨f, fd, ps, h1, h2.mono l, h3⟩
theorem spD_imp {K : PySem.W.Frag} {n : Nat} {tf tg : RF} (h : ∀ ss q, tg ss q → tf ss q) (vs : List V) (H : Hp) (Q : VK) (E : XK) (hs : spD K n tg vs H Q E) : spD K n tf vs H Q E := by
  obtain ⟨F, ss, q, h1, h2, h3, h4, h5, h6, h7, h8, h9, h10⟩ := hs
  exact ⟨F, ss, q, h1, h2, h3, h4, h5, h6, h7, h8, h _ _ h9, h10⟩
/-- a meaning that is easier to say -/
theorem Cal.imp {P : Program} {w : World} {K : PySem.W.Frag} {mg : Str → Option Value} {base : Heap} {x : Str} {k n : Nat} {tf tg : RF} (c : Cal P w K mg base x k n tf) (h : ∀ ss q, tg ss q → tf ss q) : Cal P w K mg base x k n tg := by
  obtain ⟨f, fd, ps, h1, h2, h3⟩ := c
  exact ⟨f, fd, ps, h1, h2.imp fun vs H Q E hs => spD_imp h vs H Q E hs, h3⟩
theorem cal_of {P : Program} {w : World} {K : PySem.W.Frag} {mg : Str → Option Value} {base : Heap} {x nm : Str} {st : Stmt} {ps N : List Str} {k : Nat} {t : RS} (d : Def1 K mg x st ps nm) (S : FnScope N ps (defScope st))
    (hb : ∀ (f : Addr) (cdv : Value) (A : Around) (outer : List Env) (s : Shared) (H : Hp) (E : XK), Room k (A.deeper (PyProof.Rows.envOfC nm (defScope st) s.heap.objs.size f cdv)) → SsD (cxOf CX0 P w K mg base N nm (defScope st) f cdv A outer s H E).nox (defBody st) t) :
    Cal P w K mg base x (k + 1) ps.length (fnR ps.length (N.length - ps.length) t) := by
  obtain ⟨f, fd, F, hm, b⟩ := d
  exact ⟨f, fd, ps, rfl, fn_ok F S (hb f), hm, F.kp, b⟩
section
variable {X : Cx} {e a b c : Expr} {ta tb tc : RE} {pos p p' : Pos} {es : List Expr} {tr : RA}
theorem e_cal {k n : Nat} {tf : RF} {x : Str} (G : Cal X.prog X.w X.K X.mg X.base x k n tf) (hn : ∀ ss q, tf ss q → ss.length = n) (hr : Room k X.A) (hg : Gl X x) (ha : AD X (e :: es) tr) (hdb : (x == ("__debug__" : Str)) = false := by decide)
    (he : starEach (e :: es) X.env = (false, eval e X.env) :: starEach es X.env := by rfl) (hpl : (backTo pos (starEach es X.env)).any (·.1) = false := by rfl) : ED X (.Call (.Name x p) (e :: es) [] pos) (dcallf tf tr) := by
  obtain ⟨f, fd, ps, rfl, h2, hm, hk, hb⟩ := G
  exact e_call h2 hn hr hg hm hk hb ha hdb he hpl
/-- a constant of the module -/
def Con1 (K : PySem.W.Frag) (mg : Str → Option Value) (x : Str) (d : D) : Prop := ∃ v u, mg x = some u ∧ RelV v u ∧ ∀ E H, Dn K E H d v
theorem e_glob {x : Str} {d : D} (h : Con1 X.K X.mg x d) (hg : Gl X x) (hd : (x == ("__debug__" : Str)) = false := by decide) : ED X (.Name x pos) (dcon d) := by
  obtain ⟨v, u, h1, h2, h3⟩ := h
  exact e_con (pe_glob hg h1 h2 hd) fun K E H hK => by rw [hK]; exact h3 E H
/-- the built-in names that the text leaves alone -/
structure Blt (mg : Str → Option Value) : Prop where
  len : mg "len" = none
  range : mg "range" = none
  int : mg "int" = none
  bool : mg "bool" = none
  str : mg "str" = none
  tuple : mg "tuple" = none
  list : mg "list" = none
  dict : mg "dict" = none
  set : mg "set" = none
  max : mg "max" = none
  min : mg "min" = none
  all : mg "all" = none
  any : mg "any" = none
  isi : mg "isinstance" = none
  enum : mg "enumerate" = none
  sorted : mg "sorted" = none
  zip : mg "zip" = none
  sum : mg "sum" = none

/-! ### Machine(table) -/
/-- the class at C: one field, rows; its __init__ asks check and stores -/
structure Mach (K : PySem.W.Frag) (mg : Str → Option Value) (C : Addr) : Prop where
  cl : Cls K C
  nR : NoAttr K C "rows"
  mgC : mg "Machine" = some (.ref C)
def spInit (K : PySem.W.Frag) (C : Addr) (tc : RF) : Sp := fun vs H Q _ => ∃ (x dx : Addr) (v : V) (F : Fx) (d : D) (q : D → Prop), vs = [.ref x, v] ∧ H x = some (.ins C dx []) ∧ ¬ F.W x ∧
  F.K = K ∧ F.H0 = H ∧ F.held = [] ∧ (∀ b, F.W b → F.B b) ∧ (∀ b, F.B b → ∃ o, H b = some o) ∧ F.SO H ∧ Dn F.K F.B H d v ∧ tc [.im d] q ∧
  ∀ r, q r → ∀ H', XExt F H H' → Q .non (upd H' x (.ins C dx [("rows", v)]))
def MkOk (P : Program) (w : World) (K : PySem.W.Frag) (mg : Str → Option Value) (base : Heap) (C : Addr) (k : Nat) (tc : RF) : Prop :=
  ∃ fI fd, Mk K C fI ∧ FnOk P w K mg base CX0 k fI fd ["self", "table"] (spInit K C tc) ∧ Binds K fd ["self", "table"] []
def dmake (C : Addr) (tc : RF) (ta : RE) : RE := fun ρ q => ta ρ fun d => tc [.im d] fun _ => q (.obj C ["rows"] [d])
theorem e_make {k : Nat} {C : Addr} {tc : RF} (G : MkOk X.prog X.w X.K X.mg X.base C k tc) (hr : Room (k + 1) X.A) (hg : Gl X "Machine") (hm : X.mg "Machine" = some (.ref C)) (ha : ED X e ta)
    (hs : starEach [e] X.env = (false, eval e X.env) :: starEach [] X.env := by rfl) (hpl : (backTo pos (starEach [] X.env)).any (·.1) = false := by rfl) : ED X (.Call (.Name "Machine" p) [e] [] pos) (dmake C tc ta) := fun F hF => by
  obtain ⟨fI, fd, M, G, b⟩ := G
  refine (pe_make M G hr hg hm b .nil pass0 (pa_cons (ha F hF) pa_nil hs) (by decide) hs hpl).imp fun σ H Q => ?_
  rintro ⟨E, ρ, q, env, h, k⟩
  refine ⟨E, ρ, _, env, h, fun d hd v H1 x1 hv => ?_⟩
  intro x dx hx hdx hne
  have e1 := env.step x1
  have hx' : upd H1 dx (.own x) x = none := by rw [upd_ne (Ne.symm hne)]; exact hx
  have x2 : XExt F H1 (upd (upd H1 dx (.own x)) x (.ins C dx [])) := (XExt.new e1.so hdx).trans (XExt.new (XExt.new e1.so hdx).2 hx')
  have e2 := e1.step x2
  have nE : ¬ E x := e1.nE hx
  refine ⟨x, dx, v, ⟨F.K, E, _, F.src, []⟩, d, _, rfl, upd_same, fun w => nE (e1.we w), hF, rfl, rfl, fun b hb => e2.we hb, e2.live, e2.so, e1.dn x2 hv, hd, fun r hr' H' x3 => ⟨rfl, ?_⟩⟩
  have fx : ∀ b o, H1 b = some o → ¬ F.W b → upd H' x (.ins C dx [("rows", v)]) b = some o := fun b o qb w => by
    rw [upd_ne (ne_of_none qb hx)]
    exact x3.1 b o (x2.1 b o qb w) w
  have nW : ¬ F.W x := fun w => nE (e1.we w)
  have so' : F.SO (upd H' x (.ins C dx [("rows", v)])) := (show F.SO H' from x3.2).of fun b o w qb => by rw [upd_ne (fun z : b = x => nW (z ▸ w))]; exact qb
  refine k _ hr' _ _ (x1.trans ⟨fx, so'⟩) ?_
  refine ⟨x, dx, [("rows", v)], rfl, nE, upd_same, rfl, ⟨v, [], rfl, ?_, rfl⟩⟩
  exact Dn.ext (fun b o qb w => fx b o qb fun z => w (e1.we z)) _ _ hv
end
end DL

set_option Elab.async false
set_option linter.all false
set_option maxRecDepth 100000
set_option maxHeartbeats 4000000
namespace DL
open PySem L2
/-! ### the law's source of draws -/
def m_next : RF := fun ss q => match ss with
  | [.src, .im (.int cap)] => 0 < cap ∧ cap < 1073741824 ∧ ∀ r, 0 ≤ r → r < cap → q (.int r)
  | _ => False
theorem len__law_next : ∀ ss q, m_next ss q → ss.length = 2 := fun ss q h => by
  unfold m_next at h
  split at h
  · rfl
  · exact h.elim
def spNext : Sp := fun vs H Q _ => ∃ (a c : Addr) (cap : Int), vs = [.ref a, .int cap] ∧ SrcAt H a c ∧ 0 < cap ∧ cap < 1073741824 ∧
  ∀ r H', 0 ≤ r → r < cap → SrcAt H' a c → (∀ b o, H b = some o → b ≠ a → b ≠ c → H' b = some o) → Q (.int r) H'
theorem next_of {K : PySem.W.Frag} (vs : List V) (H : Hp) (Q : VK) (E : XK) (h : spD K 2 m_next vs H Q E) : spNext vs H Q E := by
  obtain ⟨F, ss, q, hK, hH, hh, hw, hl, so, hn, ha, ht, k⟩ := h
  unfold m_next at ht
  split at ht
  · rename_i cap
    match vs, ha with
    | [v1, v2], ⟨⟨a, c, hs, e1⟩, e2, _⟩ =>
      have e2' : v2 = .int cap := e2
      subst e1 e2'
      refine ⟨a, c, cap, rfl, so a c hs, ht.1, ht.2.1, fun r H' h1 h2 sr kp => k _ (ht.2.2 r h1 h2) _ H' ⟨fun b o qb w => kp b o qb (fun z => w ⟨a, c, hs, .inl z⟩) (fun z => w ⟨a, c, hs, .inr z⟩), fun a' c' hs' => ?_⟩ rfl⟩
      rw [hs] at hs'
      cases hs'
      exact sr
    | [], h => exact (show False from h).elim
    | [_], ⟨_, h⟩ => exact (show False from h).elim
    | _ :: _ :: _ :: _, ⟨_, _, h⟩ => exact (show False from h).elim
  · exact ht.elim
theorem cal_next {P : Program} {w : World} {K : PySem.W.Frag} {mg : Str → Option Value} {base : Heap} {f : Addr} {fd : FuncData} {k : Nat} {st : Stmt} (F : Fun K "_law_next" "_law_next" st f fd) (hm : mg "_law_next" = some (.ref f)) (b : Binds K fd ["_law_h", "_law_cap"] [])
    (h : FnOk P w K mg base CX0 k f fd ["_law_h", "_law_cap"] spNext) : Cal P w K mg base "_law_next" k 2 m_next :=
  ⟨f, fd, _, rfl, h.imp next_of, hm, F.kp, b⟩
def spMix (K : PySem.W.Frag) : Sp := fun vs H Q _ => ∃ (a : Addr) (ns : List Int) (seed : Int), vs = [.ref a, .int seed] ∧ SqL K H a (ns.map V.int) ∧ ns.length ≤ 63 ∧
  ∀ H' p c, Same H H' → H p = none → H c = none → SrcAt H' p c → Q (.ref p) H'
theorem cal_never {P : Program} {w : World} {K : PySem.W.Frag} {mg : Str → Option Value} {base : Heap} {x : Str} {st : Stmt} {ps : List Str} (d : Def1 K mg x st ps) : Cal P w K mg base x 1 ps.length (fun _ _ => False) := by
  obtain ⟨f, fd, F, hm, b⟩ := d
  refine ⟨f, fd, ps, rfl, ⟨fun vs H Q E h => ?_, fun A outer s H args us vs Q E hr he hb hv hs => ?_⟩, hm, F.kp, b⟩
  · obtain ⟨_, _, _, _, _, _, _, _, _, _, _, h, _⟩ := h
    exact h.elim
  · obtain ⟨_, _, _, _, _, _, _, _, _, _, _, h, _⟩ := hs
    exact h.elim
/-- the law: its first statement makes the source, the rest is read over pure data -/
def spLaw (K : PySem.W.Frag) : Sp := fun vs H Q _ => ∃ (a : Addr) (ns : List Int), vs = [.ref a] ∧ SqL K H a (ns.map V.int) ∧ ns.length ≤ 63 ∧ ∀ H', Q (.bl true) H'
/-- what the law's rest must be read as -/
def Good (t : RS) (m : Nat) : Prop := t ⟨fun _ => False, fun d => d = .bl true, fun _ => False, fun _ => False⟩ (none :: some .src :: List.replicate m none)
theorem law_rest {X : Cx} {rest : List Stmt} {t : RS} {m : Nat} (h : SsD X rest t) (g : Good t m) : PSs X rest (fun D_ σ H => ∃ (H0 : Hp) (p c : Addr) (v : Option V), σ = v :: some (.ref p) :: List.replicate m none ∧ H0 p = none ∧ H0 c = none ∧ SrcAt H p c ∧ Same H0 H ∧ ∀ H', D_.rt (.bl true) H') := by
  refine ⟨fun pins s σ H D_ I hq => ?_⟩
  obtain ⟨H0, p, c, v, rfl, hp, hc, sr, sm, k⟩ := hq
  refine (h ⟨X.K, fun b => b = p ∨ b = c, H, some (p, c), []⟩ rfl).run pins s _ H D_ I ⟨fun b => b = p ∨ b = c, _, _, ?_, g, ⟨fun ρ z => z.elim, fun d hd v H' x hv => ?_, fun ρ z => z.elim, fun ρ z => z.elim⟩⟩
  · have so : (⟨X.K, fun b => b = p ∨ b = c, H, some (p, c), []⟩ : Fx).SO H := fun a' c' e => by cases e; exact sr
    exact {
      fr := FExt.refl _ _
      wb := fun b ⟨a', c', e, z⟩ => by cases e; exact z
      sub := fun _ z => z
      live := fun b z => by
        obtain ⟨_, s, k, ns, h1, h2, _⟩ := sr
        rcases z with rfl | rfl
        · exact ⟨_, h1⟩
        · exact ⟨_, h2⟩
      so := so
      len := by simp
      hl := fun p hp => by cases hp
      sl := fun i s hs => by
        match i, hs with
        | 0, hs => simp at hs
        | 1, hs =>
          simp at hs
          subst hs
          exact ⟨_, rfl, p, c, rfl, rfl⟩
        | i + 2, hs =>
          simp only [List.getElem?_cons_succ, List.getElem?_replicate] at hs
          split at hs <;> cases hs
      inj := fun i j s t w hi hj os _ _ _ => by
        match i, hi with
        | 0, hs => simp at hs
        | 1, hs =>
          simp at hs
          subst hs
          cases os
        | i + 2, hs =>
          simp only [List.getElem?_cons_succ, List.getElem?_replicate] at hs
          split at hs <;> cases hs }
  · have hd' : d = .bl true := hd
    subst hd'
    rw [show v = .bl true from hv]
    exact k H'
/-- a def that calls itself, to the depth j -/
def recR (n m : Nat) (t : RF → RS) : Nat → RF
  | 0 => fun _ _ => False
  | j + 1 => fnR n m (t (recR n m t j))
end DL

set_option Elab.async false
set_option linter.all false
set_option maxRecDepth 100000
set_option maxHeartbeats 4000000
namespace DL
open PySem L2
/-! ### keys -/
mutual
theorem hash_free (w : World) : ∀ (n : Nat) (d : D), d.tkN n = true → d.key.hash w = hash0 d.key
  | _, .non, _ => by rw [D.key, NestedKey.hash, hash0]
  | _, .bl _, _ => by rw [D.key, NestedKey.hash, hash0]
  | _, .int _, _ => by rw [D.key, NestedKey.hash, hash0]
  | n, .str _, h => absurd (show false = true by cases n <;> exact h) Bool.false_ne_true
  | 0, .tup _, h => absurd (show false = true from h) Bool.false_ne_true
  | n + 1, .tup xs, h => by rw [D.key, NestedKey.hash, hash0, hashes_free w n xs h]
  | n, .lst _, h => absurd (show false = true by cases n <;> exact h) Bool.false_ne_true
  | n, .obj _ _ _, h => absurd (show false = true by cases n <;> exact h) Bool.false_ne_true
  | n, .dct _ _, h => absurd (show false = true by cases n <;> exact h) Bool.false_ne_true
theorem hashes_free (w : World) : ∀ (n : Nat) (ds : List D), D.tksN n ds = true → NestedKey.hashes w (D.keys ds) = hashes0 (D.keys ds)
  | _, [], _ => by rw [D.keys, NestedKey.hashes, hashes0]
  | n, d :: ds, h => by
    rw [D.tksN, Bool.and_eq_true] at h
    rw [D.keys, NestedKey.hashes, hashes0, hash_free w n d h.1, hashes_free w n ds h.2]
end
section
variable {X : Cx} {pins : List (Addr × Obj)} {σ : St} {H : Hp} {s : Shared} {E : Addr → Prop}
theorem nestedAll_of {n : Nat} (P : ∀ (d : D) (v : V) (u : Value), d.tkN n = true → Dn X.K E H d v → RelV v u → NestedIs s.heap d.key u ∧ d.key.depth ≤ n) :
    ∀ (ds : List D) (vs : List V) (us : List Value), D.tksN n ds = true → DnA X.K E H ds vs → Vals vs us → NestedAll s.heap (D.keys ds) us ∧ NestedKey.depthAll (D.keys ds) ≤ n := by
  intro ds
  induction ds with
  | nil =>
    intro vs us _ h r
    rw [show vs = [] from h] at r
    cases r
    exact ⟨.nil, Nat.zero_le _⟩
  | cons d ds ih =>
    intro vs us hf h r
    obtain ⟨x, t, rfl, h1, h2⟩ := h
    rw [D.tksN, Bool.and_eq_true] at hf
    cases r with
    | cons ra rb =>
      obtain ⟨p1, p2⟩ := P d x _ hf.1 h1 ra
      obtain ⟨q1, q2⟩ := ih t _ hf.2 h2 rb
      refine ⟨.cons p1 q1, ?_⟩
      show max (NestedKey.depth d.key) (NestedKey.depthAll (D.keys ds)) ≤ n
      omega
theorem nested_of (I : Inv X pins σ H s) : ∀ (n : Nat) (d : D) (v : V) (u : Value), d.tkN n = true → Dn X.K E H d v → RelV v u → NestedIs s.heap d.key u ∧ d.key.depth ≤ n := by
  have flat : ∀ (n : Nat) (d : D) (v : V) (u : Value), (∀ xs, d ≠ .tup xs) → d.tkN n = true → Dn X.K E H d v → RelV v u → NestedIs s.heap d.key u ∧ d.key.depth ≤ n := by
    intro n d v u nt hf h r
    cases d with
    | non =>
      rw [show v = .non from h] at r
      rw [show u = Value.none from r]
      exact ⟨.none, Nat.zero_le _⟩
    | bl b =>
      rw [show v = .bl b from h] at r
      rw [show u = Value.bool b from r]
      exact ⟨.bool rfl, Nat.zero_le _⟩
    | int i =>
      rw [show v = .int i from h] at r
      obtain ⟨t, rfl⟩ := (show ∃ t, u = Value.int i t from r)
      exact ⟨.int _ _, Nat.zero_le _⟩
    | tup xs => exact (nt xs rfl).elim
    | str x => exact absurd (show false = true by cases n <;> exact hf) Bool.false_ne_true
    | lst x => exact absurd (show false = true by cases n <;> exact hf) Bool.false_ne_true
    | obj a b c => exact absurd (show false = true by cases n <;> exact hf) Bool.false_ne_true
    | dct a b => exact absurd (show false = true by cases n <;> exact hf) Bool.false_ne_true
  intro n
  induction n with
  | zero =>
    intro d v u hf h r
    cases d with
    | tup xs => exact absurd (show false = true from hf) Bool.false_ne_true
    | _ => exact flat 0 _ v u (fun _ z => by cases z) hf h r
  | succ n ih =>
    intro d v u hf h r
    cases d with
    | tup xs =>
      obtain ⟨a, ys, rfl, t, g⟩ := h
      obtain ⟨its, rv, ⟨o, h1, h2, m, h3⟩, _⟩ := I.tuple t.sq
      obtain rfl : u = Value.ref a := r
      obtain ⟨q1, q2⟩ := nestedAll_of (n := n) ih xs ys its hf g rv
      refine ⟨.tup h1 h2 h3 (by simpa using q1), ?_⟩
      show NestedKey.depthAll (D.keys xs) + 1 ≤ n + 1
      omega
    | _ => exact flat _ _ v u (fun _ z => by cases z) hf h r
theorem tkey_of (I : Inv X pins σ H s) {d : D} {v : V} (hf : d.tkey = true) (h : Dn X.K E H d v) : ∃ a, v = .ref a ∧ (nestedKind X.prog X.w).is s.heap d.key a ∧ d.key.hash X.w = hash0 d.key := by
  cases d with
  | tup xs =>
    obtain ⟨a, ys, rfl, t⟩ := id h
    exact ⟨a, rfl, nested_of I 8 (.tup xs) (.ref a) (.ref a) hf h rfl, hash_free _ 8 _ hf⟩
  | _ => exact absurd (show false = true from hf) Bool.false_ne_true
end
/-! ### where a key stands -/
def kix (ks : List D) (x : D) : Option Nat := (D.keys ks).findIdx? fun k => decide (k = x.key)
def kget (ks vs : List D) (x : D) : Option D := (kix ks x).bind fun i => vs[i]?
def kputK (ks : List D) (x : D) : List D := match kix ks x with
  | some _ => ks
  | none => ks ++ [x]
def kputV (ks vs : List D) (x y : D) : List D := match kix ks x with
  | some i => vs.set i y
  | none => vs ++ [y]
def D.kk : D → Option L2.Key
  | .int i => some (.inl i)
  | .str x => some (.inr x)
  | _ => none
/-- x may be asked of a dict with the keys ks -/
def kok (ks : List D) (x : D) : Bool := (x.kk.isSome && ks.all fun k => k.kk.isSome) || (x.tkey && ks.all D.tkey)
theorem keys_map : ∀ ks : List D, D.keys ks = ks.map D.key
  | [] => by rw [D.keys]; rfl
  | k :: ks => by rw [D.keys, keys_map ks]; rfl
section
variable {α κ : Type} [DecidableEq κ] (f : α → κ)
theorem find_ix (k : κ) : ∀ xs : List α, xs.find? (fun x => decide (f x = k)) = ((xs.map f).findIdx? fun z => decide (z = k)).bind fun i => xs[i]?
  | [] => rfl
  | x :: xs => by
    rw [List.find?_cons, List.map_cons, List.findIdx?_cons]
    by_cases e : f x = k
    · simp [e]
    · simp only [decide_eq_false e]
      rw [find_ix k xs]
      cases (xs.map f).findIdx? fun z => decide (z = k) with
      | none => rfl
      | some i => simp
theorem map_ix (k : κ) (g : α → α) : ∀ (xs : List α) (i : Nat) (y : α), (xs.map f).Nodup → ((xs.map f).findIdx? fun z => decide (z = k)) = some i → xs[i]? = some y → xs.map (fun x => if f x = k then g x else x) = xs.set i (g y)
  | [], _, _, _, h, _ => by cases h
  | x :: xs, i, y, nd, h, hy => by
    rw [List.map_cons, List.nodup_cons] at nd
    rw [List.map_cons, List.findIdx?_cons] at h
    by_cases e : f x = k
    · rw [decide_eq_true e] at h
      simp at h
      subst h
      simp at hy
      subst hy
      rw [List.map_cons, if_pos e, List.set_cons_zero]
      congr 1
      have : ∀ z ∈ xs, (if f z = k then g z else z) = z := fun z hz => by
        rw [if_neg]
        intro q
        exact nd.1 (List.mem_map.mpr ⟨z, hz, q.trans e.symm⟩)
      conv => rhs; rw [← List.map_id xs]
      exact List.map_congr_left this
    · rw [decide_eq_false e] at h
      simp only [Bool.false_eq_true, if_false] at h
      cases q : (xs.map f).findIdx? fun z => decide (z = k) with
      | none => rw [q] at h; cases h
      | some j =>
        rw [q] at h
        simp at h
        subst h
        rw [List.map_cons, if_neg e, List.set_cons_succ, map_ix k g xs j y nd.2 q (by simpa using hy)]
theorem ix_some {k : κ} {ks : List κ} {i : Nat} (h : (ks.findIdx? fun z => decide (z = k)) = some i) : ks[i]? = some k := by
  obtain ⟨h1, h2, _⟩ := List.findIdx?_eq_some_iff_getElem.mp h
  rw [List.getElem?_eq_getElem h1]
  exact congrArg some (of_decide_eq_true h2)
theorem ix_none {k : κ} {ks : List κ} (h : (ks.findIdx? fun z => decide (z = k)) = none) : k ∉ ks := fun hk => by
  have := List.findIdx?_eq_none_iff.mp h k hk
  simp at this
end
/-! ### the dict in the heap -/
section
variable {X : Cx} {pins : List (Addr × Obj)} {σ : St} {H : Hp} {s : Shared} {E : Addr → Prop} {a : Addr} {ks vs : List D} {us ws : List V}
theorem keys_is (I : Inv X pins σ H s) : ∀ {ks : List D} {us : List V} {xs : List (NestedKey × Addr × Value)}, ks.all D.tkey = true → DnA X.K E H ks us → xs.map (·.1) = D.keys ks → xs.map (fun x => V.ref x.2.1) = us →
    (∀ x ∈ xs, (nestedKind X.prog X.w).is s.heap x.1 x.2.1) ∧ xs.map ent0 = xs.map (entryOfKey (nestedKind X.prog X.w))
  | [], _, xs, _, h, e1, e2 => by
    rw [show _ = [] from h] at e2
    cases xs with
    | nil => exact ⟨fun x hx => (by cases hx), rfl⟩
    | cons x xs => cases e2
  | k :: ks, _, xs, ha, ⟨x, r, ex, h1, h2⟩, e1, e2 => by
    subst ex
    cases xs with
    | nil => cases e2
    | cons y ys =>
      rw [List.all_cons, Bool.and_eq_true] at ha
      rw [List.map_cons, D.keys] at e1
      rw [List.map_cons] at e2
      injection e1 with e1 e1'
      injection e2 with e2 e2'
      obtain ⟨b, eb, hb, hh⟩ := tkey_of I ha.1 h1
      rw [← e2] at eb
      injection eb with eb
      obtain ⟨q1, q2⟩ := keys_is I ha.2 h2 e1' e2'
      refine ⟨fun z hz => ?_, ?_⟩
      · rcases List.mem_cons.mp hz with rfl | hz
        · rw [e1, eb]; exact hb
        · exact q1 z hz
      · rw [List.map_cons, List.map_cons, q2]
        congr 1
        unfold ent0 entryOfKey
        show _ = (⟨NestedKey.hash X.w y.1, _, _⟩ : DictEntry)
        rw [e1, hh]
theorem dct_heap (I : Inv X pins σ H s) (hk : ks.all D.tkey = true) (dc : DcAt H a ks us ws) (dk : DnA X.K E H ks us) : ∃ xs : List (NestedKey × Addr × Value), xs.map (·.1) = D.keys ks ∧ xs.map (fun x => V.ref x.2.1) = us ∧ Vals ws (xs.map (·.2.2)) ∧ (a == sysModules) = false ∧
    xs.length ≤ sizeLine ∧ s.heap.DictOfH (nestedKind X.prog X.w) a xs := by
  rcases dc with ⟨kvs, h1, h2, h3, h4⟩ | ⟨h1, _, _⟩
  · have hn : kvs = [] := by
      cases kvs with
      | nil => rfl
      | cons p r =>
        rw [h2, List.map_cons] at dk
        cases ks with
        | nil => exact absurd (show _ :: _ = [] from dk) (by simp)
        | cons k ks =>
          obtain ⟨x, t, ex, d1, _⟩ := dk
          injection ex with ex _
          rw [List.all_cons, Bool.and_eq_true] at hk
          obtain ⟨b, eb, _⟩ := tkey_of I hk.1 d1
          rw [eb] at ex
          obtain ⟨k1, v1⟩ := p
          cases k1 <;> cases ex
    subst hn
    have hks : ks = [] := by
      rw [h2] at dk
      exact nil_of_len dk
    subst hks
    obtain ⟨z, hd, vs', rel, dd⟩ := dk_rd I.hok h1.rd
    have hv : vs' = [] := by
      have := rel.length
      exact List.eq_nil_of_length_eq_zero this.symm
    subst hv
    obtain ⟨o, es, ep, g1, g2, g3, g4, g5, g6⟩ := dd
    refine ⟨[], rfl, by rw [h2]; rfl, by rw [h3]; exact .nil, hd, Nat.zero_le _, o, es, ep, g1, g2, g3, ?_, fun x hx => (by cases hx), List.nodup_nil⟩
    cases q : es.toList with
    | nil => rfl
    | cons e r => rw [q] at g5; cases g5
  · obtain ⟨⟨hd, hl, xs, e1, nd, e2, rv, o, es, ep, g1, g2, g3, g4⟩, _⟩ := h1.ok I.hok
    obtain ⟨q1, q2⟩ := keys_is I hk dk e1 e2
    refine ⟨xs, e1, e2, rv, hd, ?_, o, es, ep, g1, g2, g3, by rw [g4, q2], q1, by rw [e1]; exact nd⟩
    rw [← e2, List.length_map] at hl
    exact hl
/-- keys that are ints and texts -/
theorem kk_of {d : D} {v : V} {k : L2.Key} (h : Dn X.K E H d v) (hk : d.kk = some k) : v = kV k := by
  cases d <;> first
    | (cases hk; exact h)
    | cases hk
def kN : L2.Key → NestedKey
  | .inl i => .num i
  | .inr x => .text x
theorem kN_inj {a b : L2.Key} (h : kN a = kN b) : a = b := by
  cases a <;> cases b <;> first
    | (injection h with h; rw [h])
    | cases h
theorem kk_key {d : D} {k : L2.Key} (hk : d.kk = some k) : d.key = kN k := by
  cases d <;> first
    | (cases hk; rw [D.key]; rfl)
    | cases hk
theorem dct_kv (hk : (ks.all fun k => k.kk.isSome) = true) (dc : DcAt H a ks us ws) (dk : DnA X.K E H ks us) : ∃ kvs : List (L2.Key × V), Rd H a (.dK kvs) ∧ us = kvs.map (fun p => kV p.1) ∧ ws = kvs.map (·.2) ∧ (kvs.map (·.1)).Nodup ∧ D.keys ks = kvs.map (fun p => kN p.1) := by
  rcases dc with ⟨kvs, h1, h2, h3, h4⟩ | ⟨h1, h2, h3⟩
  · refine ⟨kvs, h1.rd, h2, h3, h4, ?_⟩
    rw [h2] at dk
    clear h1 h2 h3 h4
    induction kvs generalizing ks with
    | nil => rw [nil_of_len dk]; rfl
    | cons p r ih =>
      cases ks with
      | nil => exact absurd (show _ :: _ = [] from dk) (by simp)
      | cons k ks =>
        obtain ⟨x, t, ex, d1, d2⟩ := dk
        rw [List.map_cons] at ex
        injection ex with ex ex'
        subst ex'
        rw [List.all_cons, Bool.and_eq_true] at hk
        rw [D.keys, List.map_cons, ih hk.2 d2]
        congr 1
        obtain ⟨k', hk'⟩ := Option.isSome_iff_exists.mp hk.1
        rw [kk_key hk']
        have := kk_of d1 hk'
        rw [← ex] at this
        rw [kV_inj this]
  · exfalso
    cases ks with
    | nil => exact h3 rfl
    | cons k ks =>
      rw [List.all_cons, Bool.and_eq_true] at hk h2
      cases k <;> first
        | exact absurd (show false = true from hk.1) Bool.false_ne_true
        | exact absurd (show false = true from h2.1) Bool.false_ne_true
end
end DL

set_option Elab.async false
set_option linter.all false
set_option maxRecDepth 100000
set_option maxHeartbeats 4000000
namespace DL
open PySem L2
section
variable {X : Cx} {pins : List (Addr × Obj)} {σ : St} {H : Hp} {s : Shared} {E : Addr → Prop} {a : Addr} {ks vs : List D} {us ws : List V} {x : D} {y : V} {u : Value} {Eo : Value → Shared → Prop}
theorem ix_map {α β : Type} [DecidableEq α] [DecidableEq β] {f : α → β} (inj : ∀ a b, f a = f b → a = b) (k : α) : ∀ l : List α, ((l.map f).findIdx? fun z => decide (z = f k)) = l.findIdx? fun z => decide (z = k)
  | [] => rfl
  | x :: l => by
    rw [List.map_cons, List.findIdx?_cons, List.findIdx?_cons, ix_map inj k l]
    by_cases e : x = k
    · rw [e]; simp
    · rw [decide_eq_false e, decide_eq_false (fun z => e (inj _ _ z))]
theorem kix_kv {kvs : List (L2.Key × V)} {k : L2.Key} (e : D.keys ks = kvs.map (fun p => kN p.1)) (hx : x.kk = some k) : kix ks x = (kvs.map (·.1)).findIdx? fun z => decide (z = k) := by
  unfold kix
  rw [e, kk_key hx, ← ix_map (f := kN) (fun _ _ => kN_inj) k, List.map_map]
  rfl
theorem valV_ix {kvs : List (L2.Key × V)} {k : L2.Key} : valV kvs k = ((kvs.map (·.1)).findIdx? fun z => decide (z = k)).bind fun i => (kvs.map (·.2))[i]? := by
  have : valV kvs k = (kvs.find? fun kv => decide (kv.1 = k)).map (·.2) := rfl
  rw [this, find_ix (·.1) k kvs]
  cases (kvs.map (·.1)).findIdx? fun z => decide (z = k) with
  | none => rfl
  | some i => simp
theorem atKey_ix {xs : List (NestedKey × Addr × Value)} (e : xs.map (·.1) = D.keys ks) : atKey xs x.key = (kix ks x).bind fun i => (xs[i]?).map (·.2) := by
  unfold atKey kix
  rw [find_ix (·.1) x.key xs, e]
  cases (D.keys ks).findIdx? fun z => decide (z = x.key) with
  | none => rfl
  | some i => simp
theorem keys_len (ks : List D) : (D.keys ks).length = ks.length := by rw [keys_map, List.length_map]
theorem kix_lt {i : Nat} (h : kix ks x = some i) : i < ks.length := by
  have := (List.getElem?_eq_some_iff.mp (ix_some h)).1
  rwa [keys_len] at this
theorem room_nested {A : Around} (hu : A.units + 64 < cLine) : (nestedKind X.prog X.w).room A.in1 := by
  show A.units + 1 + 8 < cLine
  omega
/-- y in d -/
theorem dv_in {Q : Value → Shared → Prop} (hu : X.A.units + 64 < cLine) (I : Inv X pins σ H s) (dc : DcAt H a ks us ws) (dk : DnA X.K E H ks us) (hw : ws.length = ks.length) (hx : Dn X.K E H x y) (ry : RelV y u) (ok : kok ks x = true)
    (h : ∀ s', Inv X pins σ H s' → Q (.bool (kix ks x).isSome) s') : wpAny (model X.prog X.w) X.A (compareOp .In u (.ref a)) Q Eo s := by
  unfold kok at ok
  rw [Bool.or_eq_true, Bool.and_eq_true, Bool.and_eq_true] at ok
  rcases ok with ⟨o1, o2⟩ | ⟨o1, o2⟩
  · obtain ⟨kvs, h1, h2, h3, h4, h5⟩ := dct_kv o2 dc dk
    obtain ⟨k, hk⟩ := Option.isSome_iff_exists.mp o1
    have ey := kk_of hx hk
    subst ey
    refine d_in (by omega) I (.inl ⟨kvs, k, h1, rfl, rfl⟩) ry fun s' I' => ?_
    have e : (valV kvs k).isSome = (kix ks x).isSome := by
      rw [valV_ix, ← kix_kv h5 hk]
      cases q : kix ks x with
      | none => rfl
      | some i =>
        have hi := kix_lt q
        have : i < (kvs.map (·.2)).length := by rw [← h3, hw]; exact hi
        rw [Option.bind_some, List.getElem?_eq_getElem this]; rfl
    rw [e]
    exact h s' I'
  · obtain ⟨xs, e1, e2, rv, hd, hl, dd⟩ := dct_heap I o2 dc dk
    obtain ⟨b, rfl, hb, _⟩ := tkey_of I o1 hx
    obtain rfl : u = Value.ref b := ry
    refine wpAny_in_heap (room_nested hu) hb hd dd ?_
    have e : (atKey xs x.key).isSome = (kix ks x).isSome := by
      rw [atKey_ix e1]
      cases q : kix ks x with
      | none => rfl
      | some i =>
        have hi := kix_lt q
        have : i < xs.length := by
          have := congrArg List.length e1
          rw [List.length_map, keys_len] at this
          omega
        rw [Option.bind_some, List.getElem?_eq_getElem this]; rfl
    rw [e]
    exact h _ (I.tok _)
theorem dv_notin {Q : Value → Shared → Prop} (hu : X.A.units + 64 < cLine) (I : Inv X pins σ H s) (dc : DcAt H a ks us ws) (dk : DnA X.K E H ks us) (hw : ws.length = ks.length) (hx : Dn X.K E H x y) (ry : RelV y u) (ok : kok ks x = true)
    (h : ∀ s', Inv X pins σ H s' → Q (.bool (!(kix ks x).isSome)) s') : wpAny (model X.prog X.w) X.A (compareOp .NotIn u (.ref a)) Q Eo s := by
  unfold kok at ok
  rw [Bool.or_eq_true, Bool.and_eq_true, Bool.and_eq_true] at ok
  rcases ok with ⟨o1, o2⟩ | ⟨o1, o2⟩
  · obtain ⟨kvs, h1, h2, h3, h4, h5⟩ := dct_kv o2 dc dk
    obtain ⟨k, hk⟩ := Option.isSome_iff_exists.mp o1
    have ey := kk_of hx hk
    subst ey
    refine d_notIn (by omega) I (.inl ⟨kvs, k, h1, rfl, rfl⟩) ry fun s' I' => ?_
    have e : (valV kvs k).isSome = (kix ks x).isSome := by
      rw [valV_ix, ← kix_kv h5 hk]
      cases q : kix ks x with
      | none => rfl
      | some i =>
        have hi := kix_lt q
        have : i < (kvs.map (·.2)).length := by rw [← h3, hw]; exact hi
        rw [Option.bind_some, List.getElem?_eq_getElem this]; rfl
    rw [e]
    exact h s' I'
  · obtain ⟨xs, e1, e2, rv, hd, hl, dd⟩ := dct_heap I o2 dc dk
    obtain ⟨b, rfl, hb, _⟩ := tkey_of I o1 hx
    obtain rfl : u = Value.ref b := ry
    refine PyProof.Rows.wpAny_notIn_heap (room_nested hu) hb hd dd ?_
    have e : (atKey xs x.key).isSome = (kix ks x).isSome := by
      rw [atKey_ix e1]
      cases q : kix ks x with
      | none => rfl
      | some i =>
        have hi := kix_lt q
        have : i < xs.length := by
          have := congrArg List.length e1
          rw [List.length_map, keys_len] at this
          omega
        rw [Option.bind_some, List.getElem?_eq_getElem this]; rfl
    rw [e]
    exact h _ (I.tok _)
/-- what stands at x -/
theorem at_val {i : Nat} {xs : List (NestedKey × Addr × Value)} (rv : Vals ws (xs.map (·.2.2))) {w' : V} (hi : ws[i]? = some w') : ∃ p, xs[i]? = some p ∧ RelV w' p.2.2 := by
  obtain ⟨z, h1, h2⟩ := rv.get hi
  rw [List.getElem?_map] at h1
  cases q : xs[i]? with
  | none => rw [q] at h1; cases h1
  | some p => rw [q] at h1; cases h1; exact ⟨p, rfl, h2⟩
/-- d[y] -/
theorem dv_get {Q : Value → Shared → Prop} (hu : X.A.units + 64 < cLine) (I : Inv X pins σ H s) (dc : DcAt H a ks us ws) (dk : DnA X.K E H ks us) (hx : Dn X.K E H x y) (ry : RelV y u) (ok : kok ks x = true) {i : Nat} {w' : V} (hi : kix ks x = some i) (hw : ws[i]? = some w')
    (h : ∀ r s', Inv X pins σ H s' → RelV w' r → Q r s') : wpAny (model X.prog X.w) X.A (getItem (.ref a) u) Q Eo s := by
  unfold kok at ok
  rw [Bool.or_eq_true, Bool.and_eq_true, Bool.and_eq_true] at ok
  rcases ok with ⟨o1, o2⟩ | ⟨o1, o2⟩
  · obtain ⟨kvs, h1, h2, h3, h4, h5⟩ := dct_kv o2 dc dk
    obtain ⟨k, hk⟩ := Option.isSome_iff_exists.mp o1
    have ey := kk_of hx hk
    subst ey
    have e : valV kvs k = some w' := by rw [valV_ix, ← kix_kv h5 hk, hi, Option.bind_some, ← h3, hw]
    refine d_getItem (v := w') (by omega) I ?_ ry fun r s' I' rr => h r s' I' rr
    rw [← e]
    exact .inl ⟨kvs, k, h1, rfl, rfl⟩
  · obtain ⟨xs, e1, e2, rv, hd, hl, dd⟩ := dct_heap I o2 dc dk
    obtain ⟨b, rfl, hb, _⟩ := tkey_of I o1 hx
    obtain rfl : u = Value.ref b := ry
    obtain ⟨p, hp, rp⟩ := at_val rv hw
    exact wpAny_getItem_heap (room_nested hu) hb dd (p := p.2) (by rw [atKey_ix e1, hi, Option.bind_some, hp]; rfl) (h _ _ (I.tok _) rp)
/-- d.get(y, z) -/
theorem dv_get2 {Q : Value → Shared → Prop} {z : V} {r : Value} (hu : X.A.units + 64 < cLine) (I : Inv X pins σ H s) (dc : DcAt H a ks us ws) (dk : DnA X.K E H ks us) (hl' : ws.length = ks.length) (hx : Dn X.K E H x y) (ry : RelV y u) (rz : RelV z r) (ok : kok ks x = true)
    (h : ∀ v' s', Inv X pins σ H s' → RelV (((kix ks x).bind fun i => ws[i]?).getD z) v' → Q v' s') : wpAny (model X.prog X.w) X.A (call (.builtin "dict.get") [.ref a, u, r]) Q Eo s := by
  unfold kok at ok
  rw [Bool.or_eq_true, Bool.and_eq_true, Bool.and_eq_true] at ok
  rcases ok with ⟨o1, o2⟩ | ⟨o1, o2⟩
  · obtain ⟨kvs, h1, h2, h3, h4, h5⟩ := dct_kv o2 dc dk
    obtain ⟨k, hk⟩ := Option.isSome_iff_exists.mp o1
    have ey := kk_of hx hk
    subst ey
    refine d_get2 (by omega) I (.inl ⟨kvs, k, h1, rfl, rfl⟩) ry rz fun v' s' I' rr => h v' s' I' ?_
    rw [kix_kv h5 hk, h3, ← valV_ix]
    exact rr
  · obtain ⟨xs, e1, e2, rv, hd, hl, dd⟩ := dct_heap I o2 dc dk
    obtain ⟨b, rfl, hb, _⟩ := tkey_of I o1 hx
    obtain rfl : u = Value.ref b := ry
    refine call_meetsIn PySem.F.slot_dict_get dd.typeIs PySem.F.entry_dict_get (PySem.F.args_dict_get_3 _ _ _) (meetsH_dict_get_default (nestedKind X.prog X.w) a b hd r) ⟨room_nested hu, x.key, xs, hb, dd, h _ _ (I.tok _) ?_⟩
    rw [atKey_ix e1]
    cases q : kix ks x with
    | none => exact rz
    | some i =>
      have hi := kix_lt q
      have hlt : i < ws.length := by omega
      obtain ⟨p, hp, rp⟩ := at_val rv (List.getElem?_eq_getElem hlt)
      rw [Option.bind_some, Option.bind_some, hp, List.getElem?_eq_getElem hlt]
      exact rp
theorem dv_get1 {Q : Value → Shared → Prop} (hu : X.A.units + 64 < cLine) (I : Inv X pins σ H s) (dc : DcAt H a ks us ws) (dk : DnA X.K E H ks us) (hl' : ws.length = ks.length) (hx : Dn X.K E H x y) (ry : RelV y u) (ok : kok ks x = true)
    (h : ∀ v' s', Inv X pins σ H s' → RelV (((kix ks x).bind fun i => ws[i]?).getD .non) v' → Q v' s') : wpAny (model X.prog X.w) X.A (call (.builtin "dict.get") [.ref a, u]) Q Eo s := by
  unfold kok at ok
  rw [Bool.or_eq_true, Bool.and_eq_true, Bool.and_eq_true] at ok
  rcases ok with ⟨o1, o2⟩ | ⟨o1, o2⟩
  · obtain ⟨kvs, h1, h2, h3, h4, h5⟩ := dct_kv o2 dc dk
    obtain ⟨k, hk⟩ := Option.isSome_iff_exists.mp o1
    have ey := kk_of hx hk
    subst ey
    refine d_get1 (by omega) I (.inl ⟨kvs, k, h1, rfl, rfl⟩) ry fun v' s' I' rr => h v' s' I' ?_
    rw [kix_kv h5 hk, h3, ← valV_ix]
    exact rr
  · obtain ⟨xs, e1, e2, rv, hd, hl, dd⟩ := dct_heap I o2 dc dk
    obtain ⟨b, rfl, hb, _⟩ := tkey_of I o1 hx
    obtain rfl : u = Value.ref b := ry
    refine call_meetsIn PySem.F.slot_dict_get dd.typeIs PySem.F.entry_dict_get (PySem.F.args_dict_get_2 _ _) (meetsH_dict_get (nestedKind X.prog X.w) a b hd) ⟨room_nested hu, x.key, xs, hb, dd, h _ _ (I.tok _) ?_⟩
    rw [atKey_ix e1]
    cases q : kix ks x with
    | none => exact rfl
    | some i =>
      have hi := kix_lt q
      have hlt : i < ws.length := by omega
      obtain ⟨p, hp, rp⟩ := at_val rv (List.getElem?_eq_getElem hlt)
      rw [Option.bind_some, Option.bind_some, hp, List.getElem?_eq_getElem hlt]
      exact rp
theorem dv_type (I : Inv X pins σ H s) (dc : DcAt H a ks us ws) : s.TypeIs (.ref a) "dict" ∧ (∀ b, Value.ref a = .ref b → ∃ ob, s.heap.get? b = some ob ∧ ob.dict = none) ∧ (a == sysModules) = false := by
  rcases dc with ⟨kvs, h1, _⟩ | ⟨h1, _⟩
  · exact isD_at I (.inl ⟨kvs, h1.rd⟩)
  · obtain ⟨⟨hd, hl, xs, e1, nd, e2, rv, o, es, ep, g1, g2, g3, g4⟩, _⟩ := h1.ok I.hok
    refine ⟨⟨o, g1, g2.1⟩, fun b q => ?_, hd⟩
    cases q
    exact ⟨o, g1, g2.2.1⟩
/-! ### d[y] = v -/
def putU (ks : List D) (x : D) (us : List V) (y : V) : List V := match kix ks x with
  | some _ => us
  | none => us ++ [y]
def putW (ks : List D) (x : D) (ws : List V) (v : V) : List V := match kix ks x with
  | some i => ws.set i v
  | none => ws ++ [v]
theorem Vals.app1 {xs : List V} {us : List Value} {v : V} {u : Value} (r : Vals xs us) (h : RelV v u) : Vals (xs ++ [v]) (us ++ [u]) := r.append (.cons h .nil)
theorem dv_put {Q : Unit → Shared → Prop} {v : V} {r : Value} (hu : X.A.units + 64 < cLine) (I : Inv X pins σ H s) (dc : DcM H a ks us ws) (dk : DnA X.K E H ks us) (hl : ws.length = ks.length) (hlt : ks.length < sizeLine) (hx : Dn X.K E H x y) (ry : RelV y u) (rv : RelV v r) (ok : kok ks x = true)
    (h : ∀ ob s', Inv X pins σ (upd H a ob) s' → (∀ H', H' a = some ob → DcM H' a (kputK ks x) (putU ks x us y) (putW ks x ws v)) → Q () s') : wpAny (model X.prog X.w) X.A (setItem (.ref a) u r) Q Eo s := by
  unfold kok at ok
  rw [Bool.or_eq_true, Bool.and_eq_true, Bool.and_eq_true] at ok
  rcases ok with ⟨o1, o2⟩ | ⟨o1, o2⟩
  · obtain ⟨kvs, h1, h2, h3, h4, h5⟩ := dct_kv o2 dc.rd dk
    have h1 : H a = some (.dK kvs) := by
      rcases dc with ⟨kvs', z, _⟩ | ⟨z, _⟩
      · rcases h1 with h1 | ⟨o, h1⟩
        · exact h1
        · rw [z] at h1; cases h1
      · rcases h1 with h1 | ⟨o, h1⟩
        · exact h1
        · rw [z] at h1; cases h1
    obtain ⟨k, hk⟩ := Option.isSome_iff_exists.mp o1
    have ey := kk_of hx hk
    subst ey
    have hkl : kvs.length = ks.length := by rw [← hl, h3, List.length_map]
    refine d_setItem (by omega) I (DPut.k (k := k) (v := v) h1 (by omega)) ry rv fun s' I' => h _ s' I' fun H' hH' => .inl ⟨putK kvs k v, hH', ?_⟩
    have q0 := kix_kv h5 hk
    have hany : (kvs.any fun kv => decide (kv.1 = k)) = (kix ks x).isSome := by
      rw [valV_any, valV_ix, ← q0]
      cases q : kix ks x with
      | none => rfl
      | some i =>
        have hi := kix_lt q
        have : i < (kvs.map (·.2)).length := by rw [List.length_map]; omega
        rw [Option.bind_some, List.getElem?_eq_getElem this]; rfl
    unfold putU putW putK
    rw [hany]
    cases q : kix ks x with
    | none =>
      rw [if_neg (by simp)]
      rw [q] at q0
      refine ⟨by rw [List.map_append, h2]; rfl, by rw [List.map_append, h3]; rfl, ?_⟩
      rw [List.map_append, List.nodup_append]
      refine ⟨h4, by simp, fun z hz z' hz' e => ?_⟩
      simp at hz'
      rw [hz'] at e
      rw [e] at hz
      exact ix_none q0.symm hz
    | some i =>
      rw [if_pos (show (some i).isSome = true from rfl)]
      rw [q] at q0
      have hi := kix_lt q
      have hik : i < kvs.length := by omega
      have e := map_ix (·.1) k (fun kv => (kv.1, v)) kvs i kvs[i] h4 q0.symm (List.getElem?_eq_getElem hik)
      rw [e]
      have hk1 : (kvs.map (·.1))[i]? = some k := ix_some q0.symm
      rw [List.getElem?_map, List.getElem?_eq_getElem hik] at hk1
      have hk2 : kvs[i].1 = k := Option.some.inj hk1
      have same : ∀ {β : Type} (g : L2.Key → β), (kvs.set i (kvs[i].1, v)).map (fun p => g p.1) = kvs.map (fun p => g p.1) := fun g => by
        rw [List.map_set]
        apply List.ext_getElem?
        intro j
        by_cases ej : j = i
        · subst ej
          rw [List.getElem?_set_self (by rw [List.length_map]; exact hik), List.getElem?_map, List.getElem?_eq_getElem hik]; rfl
        · rw [List.getElem?_set_ne (Ne.symm ej)]
      refine ⟨by rw [h2]; exact (same kV).symm, by rw [h3, List.map_set], ?_⟩
      have := same (fun z => z)
      rw [this]
      exact h4
  · obtain ⟨xs, e1, e2, rw', hd, hsz, dd⟩ := dct_heap I o2 dc.rd dk
    obtain ⟨b, rfl, hb, hh⟩ := tkey_of I o1 hx
    obtain rfl : u = Value.ref b := ry
    have hxl : xs.length = ks.length := by
      have := congrArg List.length e1
      rwa [List.length_map, keys_len] at this
    have hus : us.length = ks.length := dk.len
    obtain ⟨ep1, ep2⟩ := keys_is I o2 dk e1 e2
    refine wpAny_setItem_heap (hsz := hsz) (room_nested hu) hb dd fun h' dd' hs => ?_
    have mu : Mut (H a) := by
      rcases dc with ⟨kvs, z, _⟩ | ⟨z, _⟩
      · rw [z]; exact True.intro
      · rw [z]; exact True.intro
    obtain ⟨q, es, epp, hq, h2, h3, h4, h5, h6⟩ := dd'
    have key : storedH xs x.key b r = (match kix ks x with | some i => (match xs[i]? with | some p => xs.set i (p.1, p.2.1, r) | none => xs) | none => xs ++ [(x.key, b, r)]) := by
      have ha := atKey_ix (x := x) e1
      cases qk : kix ks x with
      | none => rw [qk] at ha; exact storedH_new ha b r
      | some i =>
        have hi := kix_lt qk
        have hix : i < xs.length := by omega
        rw [qk, Option.bind_some, List.getElem?_eq_getElem hix] at ha
        rw [storedH_old ha]
        simp only []
        rw [List.getElem?_eq_getElem hix]
        have nd : (xs.map (·.1)).Nodup := by obtain ⟨_, _, _, _, _, _, _, _, z⟩ := dd; exact z
        have e := map_ix (·.1) x.key (fun p => (p.1, p.2.1, r)) xs i xs[i] nd (by rw [e1]; exact qk) (List.getElem?_eq_getElem hix)
        exact e
    have ent : ∀ l : List (NestedKey × Addr × Value), (∀ z ∈ l, NestedKey.hash X.w z.1 = hash0 z.1) → l.map (entryOfKey (nestedKind X.prog X.w)) = l.map ent0 := fun l hl => List.map_congr_left fun z hz => by
      unfold ent0 entryOfKey
      show (⟨NestedKey.hash X.w z.1, _, _⟩ : DictEntry) = _
      rw [hl z hz]
    have hfree : ∀ z ∈ xs, NestedKey.hash X.w z.1 = hash0 z.1 := fun z hz => by
      have hz1 : z.1 ∈ D.keys ks := by rw [← e1]; exact List.mem_map.mpr ⟨z, hz, rfl⟩
      rw [keys_map] at hz1
      obtain ⟨d, hd1, hd2⟩ := List.mem_map.mp hz1
      have := List.all_eq_true.mp o2 d hd1
      rw [← hd2]
      cases d with
      | tup zs => exact hash_free _ 8 _ this
      | _ => exact absurd (show false = true from this) Bool.false_ne_true
    have fin : ∀ (ob : HO), ob = DictO a (D.keys (kputK ks x)) (putU ks x us (.ref b)) (putW ks x ws v) → (∃ xs' : List (NestedKey × Addr × Value), xs'.map (·.1) = D.keys (kputK ks x) ∧ (D.keys (kputK ks x)).Nodup ∧ xs'.map (fun z => V.ref z.2.1) = putU ks x us (.ref b) ∧ Vals (putW ks x ws v) (xs'.map (·.2.2)) ∧ es.toList = xs'.map ent0) →
        (putU ks x us (.ref b)).length ≤ sizeLine → (kputK ks x).all D.tkey = true → kputK ks x ≠ [] → Q () { s with heap := h', toks := s.toks + (nestedKind X.prog X.w).draws x.key } := fun ob eo ⟨xs', f1, f2, f3, f4, f5⟩ hlen htk hne => by
      refine h ob _ (d_write I mu hs ⟨q, hq⟩ ?_) fun H' hH' => .inr ⟨by rw [hH', eo], htk, hne⟩
      rw [eo]
      refine ⟨⟨hd, hlen, xs', f1, f2, f3, f4, q, es, epp, hq, h2, h3, f5⟩, ⟨q, hq⟩, fun g1 g2 ⟨c1, c2, xs2, c3, c4, c5, c6, o', es', ep', c7, c8⟩ k => ⟨c1, c2, xs2, c3, c4, c5, c6, o', es', ep', k _ c7, c8⟩⟩
    cases qk : kix ks x with
    | none =>
      have ek : kputK ks x = ks ++ [x] := by unfold kputK; rw [qk]
      have eu : putU ks x us (.ref b) = us ++ [.ref b] := by unfold putU; rw [qk]
      have ew : putW ks x ws v = ws ++ [v] := by unfold putW; rw [qk]
      have edk : D.keys (ks ++ [x]) = D.keys ks ++ [x.key] := by rw [keys_map, keys_map, List.map_append]; rfl
      refine fin _ rfl ⟨xs ++ [(x.key, b, r)], ?_, ?_, ?_, ?_, ?_⟩ ?_ ?_ ?_
      · rw [ek, edk, List.map_append, e1]; rfl
      · rw [ek, edk, ← e1]
        rw [key, qk] at h6
        simpa using h6
      · rw [eu, List.map_append, e2]; rfl
      · rw [ew, List.map_append]; exact Vals.app1 rw' rv
      · rw [h4, key, qk]
        refine ent _ fun z hz => ?_
        rcases List.mem_append.mp hz with hz | hz
        · exact hfree z hz
        · rw [List.mem_singleton.mp hz]; exact hh
      · rw [eu, List.length_append, List.length_singleton]; omega
      · rw [ek, List.all_append, o2]; simp [o1]
      · rw [ek]; simp
    | some i =>
      have hi := kix_lt qk
      have hix : i < xs.length := by omega
      have ek : kputK ks x = ks := by unfold kputK; rw [qk]
      have eu : putU ks x us (.ref b) = us := by unfold putU; rw [qk]
      have ew : putW ks x ws v = ws.set i v := by unfold putW; rw [qk]
      have key' : storedH xs x.key b r = xs.set i (xs[i].1, xs[i].2.1, r) := by rw [key, qk]; simp only []; rw [List.getElem?_eq_getElem hix]
      have same : ∀ {β : Type} (g : NestedKey × Addr × Value → β), g (xs[i].1, xs[i].2.1, r) = g xs[i] → (xs.set i (xs[i].1, xs[i].2.1, r)).map g = xs.map g := fun g eg => by
        rw [List.map_set]
        apply List.ext_getElem?
        intro j
        by_cases ej : j = i
        · subst ej
          rw [List.getElem?_set_self (by rw [List.length_map]; exact hix), List.getElem?_map, List.getElem?_eq_getElem hix, eg]; rfl
        · rw [List.getElem?_set_ne (Ne.symm ej)]
      refine fin _ rfl ⟨xs.set i (xs[i].1, xs[i].2.1, r), ?_, ?_, ?_, ?_, ?_⟩ ?_ ?_ ?_
      · rw [ek, ← e1]; exact same (·.1) rfl
      · rw [ek, ← e1]
        rw [key', same (·.1) rfl] at h6
        exact h6
      · rw [eu, ← e2]; exact same _ rfl
      · rw [ew, List.map_set]; exact rw'.set rv i
      · rw [h4, key']
        refine ent _ fun z hz => ?_
        rcases List.mem_or_eq_of_mem_set hz with hz | hz
        · exact hfree z hz
        · rw [hz]; exact hfree xs[i] (List.getElem_mem hix)
      · rw [eu]; omega
      · rw [ek]; exact o2
      · rw [ek]; intro z; rw [z] at hi; cases hi
end
end DL

set_option Elab.async false
set_option linter.all false
set_option maxRecDepth 100000
set_option maxHeartbeats 4000000
namespace DL
open PySem L2
section
variable {X : Cx} {pins : List (Addr × Obj)} {σ : St} {H : Hp} {s : Shared} {a : Addr} {ks vs : List D} {us ws : List V}
theorem dc_len (I : Inv X pins σ H s) (dc : DcAt H a ks us ws) : ws.length = us.length := by
  rcases dc with ⟨kvs, h1, h2, h3, h4⟩ | ⟨h1, _⟩
  · rw [h2, h3, List.length_map, List.length_map]
  · obtain ⟨⟨hd, hl, xs, e1, nd, e2, rv, o, es, ep, g1, g2, g3, g4⟩, _⟩ := h1.ok I.hok
    rw [← e2, rv.length, List.length_map, List.length_map]
end
/-! ### in, not in, d[k] -/
section
variable {X : Cx} {e a b c o i f value : Expr} {ta tb tc td tk tx tv : RE} {pos p p' pos' : Pos} {es : List Expr}
def rInD : R2D := fun x y q => match y with
  | .dct ks _ => kok ks x = true ∧ q (.bl (kix ks x).isSome)
  | _ => False
def rNotInD : R2D := fun x y q => match y with
  | .dct ks _ => kok ks x = true ∧ q (.bl (!(kix ks x).isSome))
  | _ => False
theorem Top.kok {F : Fx} {E : Addr → Prop} {H : Hp} {d : D} {v : V} {ks : List D} (ok : kok ks d = true) (h : Top F E H d v) : Dn F.K E H d v := by
  cases d with
  | lst ds => exact absurd (show false = true from ok) Bool.false_ne_true
  | dct ks vs => exact absurd (show false = true from ok) Bool.false_ne_true
  | _ => exact h
theorem o_inD {k : Nat} (hr : Room k X.A) : OpD X (compareOp .In) rInD := by
  refine ⟨fun y v H Q => ∃ a ks us ws x E, v = .ref a ∧ DcAt H a ks us ws ∧ DnA X.K E H ks us ∧ Dn X.K E H x y ∧ kok ks x = true ∧ Q (.bl (kix ks x).isSome) H, ?_, ?_⟩
  · rintro pins s σ H y v u u2 Q I ry rv ⟨a, ks, us, ws, x, E, rfl, dc, dk, hx, ok, q⟩
    obtain rfl : u2 = Value.ref a := rv
    exact dv_in hr.units I dc dk (by rw [dc_len I dc, dk.len]) hx ry ok fun s' I' => ⟨.bl (kix ks x).isSome, H, I', rfl, q⟩
  · intro F E H x y u v q Q hF at_ hx hy h k
    cases y with
    | dct ks vs =>
      obtain ⟨a, us, ws, rfl, nW, dc, dk, dv⟩ := hy
      exact ⟨a, ks, us, ws, x, E, rfl, dc, hF ▸ dk, hF ▸ hx.kok h.1, h.1, k _ h.2 _ H (XExt.refl at_.so) rfl⟩
    | _ => exact (show False from h).elim
theorem o_notinD {k : Nat} (hr : Room k X.A) : OpD X (compareOp .NotIn) rNotInD := by
  refine ⟨fun y v H Q => ∃ a ks us ws x E, v = .ref a ∧ DcAt H a ks us ws ∧ DnA X.K E H ks us ∧ Dn X.K E H x y ∧ kok ks x = true ∧ Q (.bl (!(kix ks x).isSome)) H, ?_, ?_⟩
  · rintro pins s σ H y v u u2 Q I ry rv ⟨a, ks, us, ws, x, E, rfl, dc, dk, hx, ok, q⟩
    obtain rfl : u2 = Value.ref a := rv
    exact dv_notin hr.units I dc dk (by rw [dc_len I dc, dk.len]) hx ry ok fun s' I' => ⟨.bl (!(kix ks x).isSome), H, I', rfl, q⟩
  · intro F E H x y u v q Q hF at_ hx hy h k
    cases y with
    | dct ks vs =>
      obtain ⟨a, us, ws, rfl, nW, dc, dk, dv⟩ := hy
      exact ⟨a, ks, us, ws, x, E, rfl, dc, hF ▸ dk, hF ▸ hx.kok h.1, h.1, k _ h.2 _ H (XExt.refl at_.so) rfl⟩
    | _ => exact (show False from h).elim
def rIxD : R2D := fun x y q => match x with
  | .dct ks vs => kok ks y = true ∧ (match kget ks vs y with
    | some d => q d
    | none => False)
  | _ => False
/-- d[k], by its reading over values -/
def tIxO (X : Cx) (to tk : TE) : TE := fun σ H Q => to σ H fun v H1 => tk σ H1 fun y H2 => ∃ a ks us ws x E i w', v = .ref a ∧ DcAt H2 a ks us ws ∧ DnA X.K E H2 ks us ∧ Dn X.K E H2 x y ∧ kok ks x = true ∧ kix ks x = some i ∧ ws[i]? = some w' ∧ Q w' H2
theorem pe_ixO {k : Nat} {to tk : TE} (hr : Room k X.A) (ho : PE X o to) (hi : PE X i tk) (hs : NoSl i) : PE X (.Subscript o i pos) (tIxO X to tk) := by
  refine ⟨fun pins s σ H Q I h => ?_⟩
  refine subD_of PySem.F.slot_dict_getitem.lookup hs (thn (ho.run pins s σ H _ I h) fun u s1 ⟨x, H1, I1, rx, q1⟩ => thn (hi.run pins s1 σ H1 _ I1 q1) fun iv s2 ⟨y, H2, I2, ry, a, ks, us, ws, z, E, j, w', ex, dc, dk, hz, ok, hj, hw, q2⟩ => ?_)
  subst ex
  obtain rfl : u = Value.ref a := rx
  exact ⟨(dv_type I2 dc).1, dv_get hr.units I2 dc dk hz ry ok hj hw fun r s3 I3 rr => ⟨w', H2, I3, rr, q2⟩⟩
theorem e_ixD {k : Nat} (hr : Room k X.A) (ha : BD X a ta) (hb : BD X b tb) (hs : NoSl b) : ED X (.Subscript a b pos) (dop rIxD ta tb) := fun F hF => by
  refine (pe_ixO hr (ha F hF) (hb F hF) hs).imp fun σ H Q => ?_
  rintro ⟨E, ρ, q, env, h, k⟩
  refine ⟨E, ρ, _, env, h, fun x hx u H1 x1 hu => ?_⟩
  refine ⟨E, ρ, _, env.step x1, hx, fun y hy v H2 x2 hv => ?_⟩
  have hu2 := hu.ext (env.step x1).at_ x2
  cases x with
  | dct ks vs =>
    obtain ⟨ok, hy⟩ := hy
    obtain ⟨a, us, ws, rfl, nW, dc, dk, dv⟩ := hu2
    unfold kget at hy
    cases qi : kix ks y with
    | none => rw [qi] at hy; exact hy.elim
    | some j =>
      rw [qi] at hy
      cases qd : vs[j]? with
      | none =>
        simp only [Option.bind_some] at hy
        rw [qd] at hy
        exact hy.elim
      | some d =>
        simp only [Option.bind_some] at hy
        rw [qd] at hy
        obtain ⟨w', g1, g2⟩ := dv.get qd
        exact ⟨a, ks, us, ws, y, E, j, w', rfl, dc, hF ▸ dk, hF ▸ hv.kok ok, ok, qi, g1, k _ hy _ H2 (x1.trans x2) g2⟩
  | _ => exact (show False from hy).elim
/-! ### d.get(k, z), d.get(k) -/
def ddget2 (td tk tx : RE) : RE := fun ρ q => td ρ fun d => match d with
  | .dct ks vs => tk ρ fun y => tx ρ fun z => kok ks y = true ∧ vs.length = ks.length ∧ q ((kget ks vs y).getD z)
  | _ => False
def ddget1 (td tk : RE) : RE := fun ρ q => td ρ fun d => match d with
  | .dct ks vs => tk ρ fun y => kok ks y = true ∧ vs.length = ks.length ∧ q ((kget ks vs y).getD .non)
  | _ => False
theorem get_dn {K : PySem.W.Frag} {E : Addr → Prop} {H : Hp} {ks vs : List D} {ws : List V} {y z : D} {w : V} (dv : DnA K E H vs ws) (hz : Dn K E H z w) (hl : vs.length = ks.length) : Dn K E H ((kget ks vs y).getD z) (((kix ks y).bind fun i => ws[i]?).getD w) := by
  unfold kget
  cases qi : kix ks y with
  | none => exact hz
  | some j =>
    have hj := kix_lt qi
    have h1 : j < vs.length := by omega
    obtain ⟨w', g1, g2⟩ := dv.get (List.getElem?_eq_getElem h1)
    rw [Option.bind_some, Option.bind_some, g1, List.getElem?_eq_getElem h1]
    exact g2
def tGet2O (X : Cx) (td tk tx : TE) : TE := fun σ H Q => td σ H fun v H1 => ∃ a ks us ws E, v = .ref a ∧ DcAt H1 a ks us ws ∧ DnA X.K E H1 ks us ∧ tk σ H1 fun y H2 => tx σ H2 fun z H3 => ∃ x E', DcAt H3 a ks us ws ∧ DnA X.K E' H3 ks us ∧ Dn X.K E' H3 x y ∧ kok ks x = true ∧ Q (((kix ks x).bind fun i => ws[i]?).getD z) H3
theorem pe_get2O {k : Nat} {to tk' tx' : TE} {apos cpos : Pos} (hr : Room k X.A) (ho : PE X o to) (he : PE X e tk') (hf : PE X f tx') (m : M2 X o "get" apos e f cpos) : PE X (.Call (.Attribute o "get" apos) [e, f] [] cpos) (tGet2O X to tk' tx') := by
  refine ⟨fun pins s σ H Q I h => ?_⟩
  refine wpAny_Call_method m.base m.few m.line PySem.F.plainAttrs_dict PySem.F.slot_dict_get PySem.F.type_dict_get (thn (ho.run pins s σ H _ I h) fun u s1 ⟨x, H1, I1, rx, a, ks, us, ws, E, ex, dc, dk, q1⟩ => ?_)
  subst ex
  obtain rfl : u = Value.ref a := rx
  obtain ⟨t1, t2, _⟩ := dv_type I1 dc
  refine ⟨t1, t2, ?_⟩
  rw [m.trees]
  refine Calls.callWith_builtin rfl (Calls.evalArgs_plain (Calls.spliced_cons (thn (he.run pins s1 σ H1 _ I1 q1) fun iv s2 ⟨y, H2, I2, ry, q2⟩ =>
    Calls.spliced_cons (thn (hf.run pins s2 σ H2 _ I2 q2) fun fv s3 ⟨z, H3, I3, rz, x, E', dc3, dk3, hx, ok, q3⟩ => Calls.spliced_nil ?_))))
  exact dv_get2 hr.units I3 dc3 dk3 (by rw [dc_len I3 dc3, dk3.len]) hx ry rz ok fun w' s4 I4 rw' => ⟨_, H3, I4, rw', q3⟩
theorem e_get2 {k : Nat} {apos cpos : Pos} (hr : Room k X.A) (ho : BD X o td) (he : ED X e tk) (hf : ED X f tx) (m : M2 X o "get" apos e f cpos) : ED X (.Call (.Attribute o "get" apos) [e, f] [] cpos) (ddget2 td tk tx) := fun F hF => by
  refine (pe_get2O hr (ho F hF) (he F hF) (hf F hF) m).imp fun σ H Q => ?_
  rintro ⟨E, ρ, q, env, h, k⟩
  refine ⟨E, ρ, _, env, h, fun d hd u H1 x1 hu => ?_⟩
  have e1 := env.step x1
  cases d with
  | dct ks vs =>
    obtain ⟨a, us, ws, rfl, nW, dc, dk, dv⟩ := id hu
    refine ⟨a, ks, us, ws, E, rfl, dc, hF ▸ dk, E, ρ, _, e1, hd, fun y hy v H2 x2 hv => ?_⟩
    have e2 := e1.step x2
    refine ⟨E, ρ, _, e2, hy, fun z hz w H3 x3 hw => ?_⟩
    have nt : Top F E H3 (.dct ks vs) (.ref a) := (Top.ext e1.at_ x2 hu).ext e2.at_ x3
    obtain ⟨a', us', ws', ea, _, dc3, dk3, dv3⟩ := nt
    have dc3' : DcAt H3 a ks us ws := dc.at fun o q => x3.1 a o (x2.1 a o q nW) nW
    have dk3' := e2.dna x3 (e1.dna x2 dk)
    have dv3' := e2.dna x3 (e1.dna x2 dv)
    refine ⟨y, E, dc3', hF ▸ dk3', hF ▸ e2.dn x3 hv, hz.1, k _ hz.2.2 _ H3 (x1.trans (x2.trans x3)) (get_dn dv3' hw hz.2.1)⟩
  | _ => exact (show False from hd).elim
def tGet1O (X : Cx) (td tk : TE) : TE := fun σ H Q => td σ H fun v H1 => ∃ a ks us ws E, v = .ref a ∧ DcAt H1 a ks us ws ∧ DnA X.K E H1 ks us ∧ tk σ H1 fun y H3 => ∃ x E', DcAt H3 a ks us ws ∧ DnA X.K E' H3 ks us ∧ Dn X.K E' H3 x y ∧ kok ks x = true ∧ Q (((kix ks x).bind fun i => ws[i]?).getD .non) H3
theorem pe_get1O {k : Nat} {to tk' : TE} {apos cpos : Pos} (hr : Room k X.A) (ho : PE X o to) (he : PE X e tk') (m : M1 X o "get" apos e cpos) : PE X (.Call (.Attribute o "get" apos) [e] [] cpos) (tGet1O X to tk') := by
  refine ⟨fun pins s σ H Q I h => ?_⟩
  refine wpAny_Call_method m.base m.few m.line PySem.F.plainAttrs_dict PySem.F.slot_dict_get PySem.F.type_dict_get (thn (ho.run pins s σ H _ I h) fun u s1 ⟨x, H1, I1, rx, a, ks, us, ws, E, ex, dc, dk, q1⟩ => ?_)
  subst ex
  obtain rfl : u = Value.ref a := rx
  obtain ⟨t1, t2, _⟩ := dv_type I1 dc
  refine ⟨t1, t2, ?_⟩
  rw [m.trees]
  refine Calls.callWith_builtin rfl (Calls.evalArgs_plain (Calls.spliced_cons (thn (he.run pins s1 σ H1 _ I1 q1) fun iv s2 ⟨y, H2, I2, ry, x, E', dc3, dk3, hx, ok, q3⟩ => Calls.spliced_nil ?_)))
  exact dv_get1 hr.units I2 dc3 dk3 (by rw [dc_len I2 dc3, dk3.len]) hx ry ok fun w' s4 I4 rw' => ⟨_, H2, I4, rw', q3⟩
theorem e_get1 {k : Nat} {apos cpos : Pos} (hr : Room k X.A) (ho : BD X o td) (he : ED X e tk) (m : M1 X o "get" apos e cpos) : ED X (.Call (.Attribute o "get" apos) [e] [] cpos) (ddget1 td tk) := fun F hF => by
  refine (pe_get1O hr (ho F hF) (he F hF) m).imp fun σ H Q => ?_
  rintro ⟨E, ρ, q, env, h, k⟩
  refine ⟨E, ρ, _, env, h, fun d hd u H1 x1 hu => ?_⟩
  have e1 := env.step x1
  cases d with
  | dct ks vs =>
    obtain ⟨a, us, ws, rfl, nW, dc, dk, dv⟩ := id hu
    refine ⟨a, ks, us, ws, E, rfl, dc, hF ▸ dk, E, ρ, _, e1, hd, fun y hy v H2 x2 hv => ?_⟩
    have dc3' : DcAt H2 a ks us ws := dc.at fun o q => x2.1 a o q nW
    refine ⟨y, E, dc3', hF ▸ e1.dna x2 dk, hF ▸ hv, hy.1, k _ hy.2.2 _ H2 (x1.trans x2) (get_dn (e1.dna x2 dv) rfl hy.2.1)⟩
  | _ => exact (show False from hd).elim
/-! ### d[k] = v -/
def sput (j : Nat) (tk tv : RE) : RS := fun Z ρ => tv ρ fun y => match ρ[j]? with
  | some (some (.md ks vs)) => tk ρ fun x => kok ks x = true ∧ vs.length = ks.length ∧ ks.length < sizeLine ∧ Z.nx (ρ.set j (some (.md (kputK ks x) (kputV ks vs x y))))
  | _ => False
def sPutO (X : Cx) (td ty tv : TE) : TS := fun D_ σ H => tv σ H fun v H1 => td σ H1 fun x H2 => ty σ H2 fun y H3 => ∃ a ks us ws E z, x = .ref a ∧ DcM H3 a ks us ws ∧ DnA X.K E H3 ks us ∧ Dn X.K E H3 z y ∧ kok ks z = true ∧ ks.length < sizeLine ∧
  ∀ ob, (∀ H', H' a = some ob → DcM H' a (kputK ks z) (putU ks z us y) (putW ks z ws v)) → D_.nx σ (upd H3 a ob)
theorem ps_putO {k : Nat} {to ti tw : TE} (hr : Room k X.A) (ho : PE X o to) (hi : PE X i ti) (hv : PE X value tw) (hs : swapsWith value (some (.Subscript o i pos')) pos.line X.env = pure false := by rfl) :
    PS X (.Assign [.Subscript o i pos'] value pos) (sPutO X to ti tw) := by
  refine ⟨fun pins s σ H D I h => ?_⟩
  refine wpAny_Assign_Subscript (thn (hv.run pins s σ H _ I h) fun r s1 ⟨v, H1, I1, rv, q1⟩ => thn (ho.run pins s1 σ H1 _ I1 q1) fun u s2 ⟨x, H2, I2, rx, q2⟩ => thn (hi.run pins s2 σ H2 _ I2 q2) fun iv s3 ⟨y, H3, I3, ry, a, ks, us, ws, E, z, ex, dc, dk, hz, ok, hl, q3⟩ => ?_) hs
  subst ex
  obtain rfl : u = Value.ref a := rx
  exact dv_put hr.units I3 dc dk (by rw [dc_len I3 dc.rd, dk.len]) hl hz ry rv ok fun ob s4 I4 g => ⟨σ, _, I4, q3 ob g⟩
theorem put_dna {K : PySem.W.Frag} {E : Addr → Prop} {H : Hp} {ks : List D} {us : List V} {x : D} {y : V} (dk : DnA K E H ks us) (hx : Dn K E H x y) : DnA K E H (kputK ks x) (putU ks x us y) := by
  unfold kputK putU
  cases kix ks x with
  | none => exact dk.app (DnA.one hx)
  | some i => exact dk
theorem putv_dna {K : PySem.W.Frag} {E : Addr → Prop} {H : Hp} {ks vs : List D} {ws : List V} {x d : D} {v : V} (dv : DnA K E H vs ws) (hd : Dn K E H d v) : DnA K E H (kputV ks vs x d) (putW ks x ws v) := by
  unfold kputV putW
  cases kix ks x with
  | none => exact dv.app (DnA.one hd)
  | some i => exact dv.set i hd
theorem s_put {k j : Nat} (hr : Room k X.A) (ho : PE X o (tVar j)) (hi : ED X i tk) (hv : ED X value tv) (hs : swapsWith value (some (.Subscript o i pos')) pos.line X.env = pure false := by rfl) :
    SD X (.Assign [.Subscript o i pos'] value pos) (sput j tk tv) := fun F hF => by
  refine (ps_putO hr ho (hi F hF) (hv F hF) hs).imp fun D_ σ H => ?_
  rintro ⟨E, ρ, Z, env, h, sv⟩
  refine ⟨E, ρ, _, env, h, fun d hd w H1 x1 hw => ?_⟩
  have e1 := env.step x1
  split at hd
  · rename_i ks vs hj
    obtain ⟨v, hv', p, us, ws, ev, hE, hB, h0, dc, dk, dv⟩ := e1.sl j _ hj
    subst ev
    refine ⟨_, hv', E, ρ, _, e1, hd, fun x hx y H2 x2 hy => ?_⟩
    have e2 := e1.step x2
    obtain ⟨ok, hl, hlt, hnx⟩ := hx
    have nW : ¬ F.W p := fun w => hB (env.wb p w)
    have dc2 : DcM H2 p ks us ws := dc.at fun o q => x2.1 p o q nW
    have dk2 := e1.dna x2 dk
    have dv2 := e1.dna x2 dv
    refine ⟨p, ks, us, ws, E, x, rfl, dc2, hF ▸ dk2, hF ▸ hy, ok, hlt, fun ob g => ?_⟩
    refine sv.nx _ hnx E σ _ (e2.writeS hj rfl hv' fun fe => ⟨putU ks x us y, putW ks x ws w, g _ upd_same, ?_, ?_⟩)
    · exact DnA.ext fe _ _ (put_dna dk2 hy)
    · exact DnA.ext fe _ _ (putv_dna dv2 (e1.dn x2 hw))
  · exact hd.elim
/-! ### new dicts -/
abbrev RDD := Rho → (List D → List D → Prop) → Prop
def liftFD (F : Fx) (t : RDD) : TE := fun σ H Q => ∃ E ρ q, DEnv F E σ H ρ ∧ t ρ q ∧ ∀ ks vs, q ks vs → ∀ p H', XExt F H H' → H p = none → OwnAt F (plus E p) H' p (.md ks vs) → Q (.ref p) H'
def FDD (X : Cx) (e : Expr) (t : RDD) : Prop := ∀ F : Fx, F.K = X.K → PE X e (liftFD F t)
def fdnew : RDD := fun _ q => q [] []
theorem fd_new : FDD X (.Dict [] [] pos) fdnew := fun F hF => pe_dnewK.imp fun σ H Q => by
  rintro ⟨E, ρ, q, env, h, k⟩
  intro p hp
  exact k _ _ h p _ (XExt.new env.so hp) hp ⟨[], [], .inl ⟨[], upd_same, rfl, rfl, List.nodup_nil⟩, rfl, rfl⟩
def fddct_ (t : RDD) : RE := fun ρ q => t ρ fun ks vs => q (.dct ks vs)
theorem fd_e {t : RDD} (h : FDD X e t) : ED X e (fddct_ t) := fun F hF => (h F hF).imp fun σ H Q => by
  rintro ⟨E, ρ, q, env, h, k⟩
  refine ⟨E, ρ, _, env, h, fun ks vs hd p H1 x1 hp ow => ?_⟩
  obtain ⟨us, ws, dc, dk, dv⟩ := ow
  exact k _ hd _ H1 x1 ⟨p, us, ws, rfl, env.nE hp, dc.rd, DnA.less (fun _ => .inl) _ _ dk, DnA.less (fun _ => .inl) _ _ dv⟩
theorem OwnAt.some {F : Fx} {E : Addr → Prop} {H : Hp} {p : Addr} {s : Sl} (h : OwnAt F E H p s) : ∃ o, H p = .some o := by
  cases s with
  | ml ds => obtain ⟨xs, h1, _⟩ := h; exact ⟨_, h1⟩
  | md ks vs => obtain ⟨us, ws, h1, _⟩ := h; exact h1.some
  | im d => exact (show False from h).elim
  | src => exact (show False from h).elim
def sownD (j : Nat) (t : RDD) : RS := fun Z ρ => t ρ fun ks vs => Z.nx (ρ.set j (some (.md ks vs)))
theorem s_ownD {j : Nat} {x : Str} {t : RDD} (hN : X.N.Nodup) (hi : X.N[j]? = some x) (hx : Loc X.env.scope x) (he : FDD X e t) (hs : swapsWith e (some (.Name x pos')) pos.line X.env = pure false := by rfl) (hf : X.fn x = true ∨ X.env.scope.names.lookup x = some .local := by first | exact .inl rfl | exact .inr rfl | assumption) :
    SD X (.Assign [.Name x pos'] e pos) (sownD j t) := fun F hF => (ps_set hN hi hx (he F hF) hs hf).imp fun D_ σ H => by
  rintro ⟨E, ρ, Z, env, h, sv⟩
  refine ⟨E, ρ, _, env, h, fun ks vs hd p H1 x1 hp ow => ?_⟩
  have e1 := env.shut x1 hp ow.some
  exact sv.nx _ hd _ _ H1 (env.ownS e1 (.inr rfl) (env.nE hp) (env.h0 hp) ow)
def kmd (t : RDD) (r : RA) : RA := fun ρ q => t ρ fun ks vs => r ρ fun ss => q (.md ks vs :: ss)
theorem OwnAt.grow {F : Fx} {E E' : Addr → Prop} {H H' : Hp} {p : Addr} {s : Sl} (h : OwnAt F E H p s) (g : Grow F E H E' H') (we : ∀ b, F.W b → E b) (nW : ¬ F.W p) : OwnAt F E' H' p s := by
  cases s with
  | ml ds => obtain ⟨xs, h1, h2⟩ := h; exact ⟨xs, g.x.1 p _ h1 nW, g.dna we h2⟩
  | md ks vs => obtain ⟨us, ws, h1, h2, h3⟩ := h; exact ⟨us, ws, h1.at fun o q => g.x.1 p o q nW, g.dna we h2, g.dna we h3⟩
  | im d => exact (show False from h).elim
  | src => exact (show False from h).elim
theorem k_md {t : RDD} {tr : RA} (ha : FDD X e t) (hr : KD X es tr) (hs : starEach (e :: es) X.env = (false, eval e X.env) :: starEach es X.env := by rfl) : KD X (e :: es) (kmd t tr) := fun F hF => (pa_cons (ha F hF) (hr F hF) hs).imp fun σ H Q => by
  rintro ⟨E, ρ, q, env, h, k⟩
  refine ⟨E, ρ, _, env, h, fun ks vs hd p H1 x1 hp ow => ?_⟩
  have e1 := env.shut x1 hp ow.some
  refine ⟨plus E p, ρ, _, e1, hd, fun ss hss vs' H2 E2 g hvs => k _ hss _ H2 E2 ?_ ⟨plus E p, ⟨fun _ z => .inl z, p, rfl, .inr rfl, env.nE hp, g.sub p (.inr rfl), fun hB => env.nE hp (env.sub p hB), env.h0 hp, ow.grow g (fun _ => e1.we) (fun w => env.nE hp (env.we w))⟩, hvs⟩⟩
  exact (show Grow F E H (plus E p) H1 from ⟨x1, fun _ z => .inl z, fun b hb => hb.elim .inl fun z => .inr (z ▸ hp), e1.live⟩).trans g fun q hq => XExt.free env x1 hq
end
end DL

set_option Elab.async false
set_option linter.all false
set_option maxRecDepth 100000
set_option maxHeartbeats 4000000
namespace DL
open PySem L2
section
variable {X : Cx} {e a b c o i f value : Expr} {ta tb tc td tk tx tv : RE} {pos p p' pos' : Pos} {es : List Expr}
/-! ### {k: v} -/
def tDisp1 (X : Cx) (tk tv : TE) : TE := fun σ H Q => ∀ p, H p = none → tk σ (upd H p (.dK [])) fun y H1 => tv σ H1 fun w H2 => H2 p = some (.dK []) ∧ ∃ x E, Dn X.K E H2 x y ∧ x.tkey = true ∧
  ∀ ob, (∀ H', H' p = some ob → DcM H' p [x] [y] [w]) → Q (.ref p) (upd H2 p ob)
theorem pe_disp1 {k : Nat} {t1 t2 : TE} (hr : Room k X.A) (ha : PE X a t1) (hb : PE X b t2) : PE X (.Dict [some a] [b] pos) (tDisp1 X t1 t2) := by
  refine ⟨fun pins s σ H Q I q => ?_⟩
  have hn := I.hok.fresh (Nat.le_refl s.heap.objs.size)
  have I1 := I.laid (a := s.heap.objs.size) (o := .dK []) (h' := s.heap.push { cls := .type "dict", data := .dict #[] }) (t' := s.toks) (fun _ _ q => Heap.get?_push_of_some _ q) (Nat.le_refl _) (dk_empty s.heap I.big)
  rw [arm_eval_Dict, zip_pairTrees [some a] [b] X.env pos rfl rfl, dictDisplay_pairs (pairTrees [some a] [b] X.env pos) (by simp [pairTrees]) (by simp [pairTrees])]
  refine wpAny_bind (wpAny_standAt (wpAny_bind (wpAny_subDictH (knd := nestedKind X.prog X.w) (show X.A.units + 8 < cLine by have := hr.un; omega) (by simp [pairTrees]) ?_)))
  refine pairTrees_cons_walk (thn (ha.run pins _ σ _ _ I1 (q _ hn)) fun u s1 ⟨y, H1, I1, ry, q1⟩ => thn (hb.run pins s1 σ H1 _ I1 q1) fun r s2 ⟨w, H2, I2, rw', e, x, E, hx, htk, q2⟩ => pairTrees_nil_walk ?_)
  obtain ⟨b', rfl, hb', hh⟩ := tkey_of I2 htk hx
  obtain rfl : u = Value.ref b' := ry
  obtain ⟨xs, e1, e2, _, hd, _, dd⟩ := dct_heap (ks := []) (us := []) (ws := []) (E := E) I2 rfl (.inl ⟨[], .inl e, rfl, rfl, List.nodup_nil⟩) rfl
  have exs : xs = [] := by
    cases xs with
    | nil => rfl
    | cons z zs => cases e2
  subst exs
  refine ⟨[(x.key, b', r)], ⟨rfl, rfl, hb', True.intro⟩, dd, fun h' tk' dd' hs => wpAny_pure ?_⟩
  obtain ⟨qo, es', ep, hq, h2, h3, h4, h5, h6⟩ := dd'
  have e0 : storedAllH [] [(x.key, b', r)] = [(x.key, b', r)] := rfl
  rw [e0] at h4
  have hdk : D.keys [x] = [x.key] := by rw [D.keys, D.keys]
  refine ⟨.ref s.heap.objs.size, _, d_write I2 (ob := DictO s.heap.objs.size (D.keys [x]) [.ref b'] [w]) (by rw [e]; exact True.intro) hs ⟨qo, hq⟩ ?_, rfl, q2 _ fun H' hH' => .inr ⟨hH', by simp [htk], by simp⟩⟩
  refine ⟨⟨hd, by simp [sizeLine_eq], [(x.key, b', r)], by rw [hdk]; rfl, by rw [hdk]; simp, rfl, .cons rw' .nil, qo, es', ep, hq, h2, h3, ?_⟩, ⟨qo, hq⟩, fun g1 g2 ⟨c1, c2, xs2, c3, c4, c5, c6, o', es', ep', c7, c8⟩ k => ⟨c1, c2, xs2, c3, c4, c5, c6, o', es', ep', k _ c7, c8⟩⟩
  rw [h4]
  show [_] = [_]
  unfold ent0 entryOfKey
  show [(⟨NestedKey.hash X.w x.key, _, _⟩ : DictEntry)] = _
  rw [hh]
def fdisp (tk tv : RE) : RDD := fun ρ q => tk ρ fun x => tv ρ fun y => x.tkey = true ∧ q [x] [y]
theorem fd_disp {k : Nat} (hr : Room k X.A) (ha : ED X a ta) (hb : ED X b tb) : FDD X (.Dict [some a] [b] pos) (fdisp ta tb) := fun F hF => (pe_disp1 hr (ha F hF) (hb F hF)).imp fun σ H Q => by
  rintro ⟨E, ρ, q, env, h, k⟩
  intro p hp
  have e0 := env.shut (XExt.new (o := .dK []) env.so hp) hp ⟨_, upd_same⟩
  refine ⟨plus E p, ρ, _, e0, h, fun x hx y H1 x1 hy => ?_⟩
  have e1 := e0.step x1
  refine ⟨plus E p, ρ, _, e1, hx, fun z hz w H2 x2 hw => ?_⟩
  have e2 := e1.step x2
  have nE : ¬ E p := env.nE hp
  have nW : ¬ F.W p := fun w => nE (env.we w)
  have hp2 : H2 p = some (.dK []) := x2.1 p _ (x1.1 p _ upd_same nW) nW
  have hy2 := e1.dn x2 hy
  refine ⟨hp2, x, plus E p, hF ▸ hy2, hz.1, fun ob g => ?_⟩
  have fe : FExt (plus E p) H2 (upd H2 p ob) := fun b o q hb => by rw [upd_ne (fun z : b = p => hb (.inr z))]; exact q
  have xx : XExt F H (upd H2 p ob) := by
    refine ⟨fun b o q w => ?_, e2.so.of fun b o w q => by rw [upd_ne (fun z : b = p => nW (z ▸ w))]; exact q⟩
    have nb : b ≠ p := fun z => by rw [z, hp] at q; cases q
    rw [upd_ne nb]
    exact x2.1 b o (x1.1 b o (by rw [upd_ne nb]; exact q) w) w
  exact k _ _ hz.2 p _ xx hp ⟨[y], [w], g _ upd_same, DnA.one (Dn.ext fe _ _ hy2), DnA.one (Dn.ext fe _ _ hw)⟩
/-! ### sorted(xs) -/
def rSorted : RCD := fun ds q => match ds with
  | [.lst xs] => (D.lst xs).fit = true ∧ PySem.W.AllAlike (xs.map D.py) ∧ PySem.W.Sortable (xs.map D.py) ∧ xs.length ≤ sizeLine ∧ q (.lst (xs.mergeSort (PySem.W.dataLe false D.py)))
  | _ => False
theorem each_of {K : PySem.W.Frag} {E : Addr → Prop} {H : Hp} : ∀ {ds : List D} {xs : List V} {us : List Value}, DnA K E H ds xs → Vals xs us → PySem.W.EachIs (fun u d => ∃ v, RelV v u ∧ Dn K E H d v) us ds
  | [], _, _, h, r => by
    rw [show _ = [] from h] at r
    cases r
    exact .nil
  | d :: ds, _, _, ⟨x, t, ex, h1, h2⟩, r => by
    subst ex
    cases r with
    | cons ra rb => exact .cons ⟨x, ra, h1⟩ (each_of h2 rb)
theorem each_back {K : PySem.W.Frag} {E : Addr → Prop} {H : Hp} : ∀ {ds : List D} {us : List Value}, PySem.W.EachIs (fun u d => ∃ v, RelV v u ∧ Dn K E H d v) us ds → ∃ xs : List V, Vals xs us ∧ DnA K E H ds xs
  | _, _, .nil => ⟨[], .nil, rfl⟩
  | _, _, .cons ⟨v, r, h⟩ t => by
    obtain ⟨xs, h1, h2⟩ := each_back t
    exact ⟨v :: xs, .cons r h1, v, xs, rfl, h, h2⟩
theorem fitsN_mem {n : Nat} : ∀ {ds : List D}, D.fitsN n ds = true → ∀ d ∈ ds, d.fitN n = true
  | [], _, d, hd => by cases hd
  | x :: ds, h, d, hd => by
    rw [D.fitsN, Bool.and_eq_true] at h
    rcases List.mem_cons.mp hd with rfl | hd
    · exact h.1
    · exact fitsN_mem h.2 d hd
theorem each_reads {pins : List (Addr × Obj)} {σ : St} {H : Hp} {s : Shared} {E : Addr → Prop} (I : Inv X pins σ H s) : ∀ {ds : List D} {us : List Value}, (∀ d ∈ ds, d.fitN 7 = true) → PySem.W.EachIs (fun u d => ∃ v, RelV v u ∧ Dn X.K E H d v) us ds → PySem.W.EachIs (fun u d => ∃ as, Reads s.heap u (D.py d) as) us ds
  | _, _, _, .nil => .nil
  | _, _, hf, .cons ⟨v, r, h⟩ t => .cons (Dp.reads I _ v _ (dp_of 7 _ v (hf _ (List.mem_cons_self ..)) h) r) (each_reads I (fun d hd => hf d (List.mem_cons_of_mem _ hd)) t)
theorem c_sorted {k : Nat} (hr : Room k X.A) : CallD X (.builtin "sorted") rSorted := by
  refine ⟨fun vs H Q => ∃ a xs ds E, vs = [.ref a] ∧ SqL X.K H a xs ∧ DnA X.K E H ds xs ∧ (D.lst ds).fit = true ∧ PySem.W.AllAlike (ds.map D.py) ∧ PySem.W.Sortable (ds.map D.py) ∧
    ∀ p ys, H p = none → DnA X.K E H (ds.mergeSort (PySem.W.dataLe false D.py)) ys → Q (.ref p) (upd H p (.lst ys)), ?_, ?_⟩
  · rintro pins s σ H vs us Q I r ⟨a, xs, ds, E, rfl, sq, dn, hf, hal, hso, q⟩
    obtain ⟨its, rv, hl, hz⟩ := I.list sq
    obtain ⟨u, rfl, ru⟩ := vals1 r
    obtain rfl : u = Value.ref a := ru
    have hf' : ∀ d ∈ ds, d.fitN 7 = true := fitsN_mem hf
    have ee := each_of dn rv
    have hdl : xs.length = ds.length := dn.len
    refine PySem.W.sorted_data hl.isList ee (each_reads I hf' ee) hal hso (by omega) (fun d hd => ?_) fun out hol eo => ?_
    · have := (fitN_lay 7 d (hf' d hd)).2
      have := hr.un
      omega
    · obtain ⟨ys, ry, dy⟩ := each_back eo
      obtain ⟨e, he⟩ := PyProof.Rows.sortedAll_at s.heap its out.toArray
      have hfr := I.hok.fresh (show s.heap.objs.size ≤ s.heap.objs.size + 1 by omega)
      refine ⟨.ref (s.heap.objs.size + 1), _, I.laid (a := s.heap.objs.size + 1) (o := .lst ys) (t' := s.toks) (fun b o z => PyProof.Rows.sortedAll_old z) (by omega) ?_, rfl, q _ ys hfr dy⟩
      exact ⟨by rw [ry.length]; omega, out, e, ry, he⟩
  · intro F E H ds vs q Q hF at_ hv h k
    unfold rSorted at h
    split at h
    · rename_i xs
      obtain ⟨v, rfl, a, ys, rfl, t, g⟩ := hv.one
      obtain ⟨h1, h2, h3, h4, h5⟩ := h
      refine ⟨a, ys, xs, E, rfl, t.sq, hF ▸ g, h1, h2, h3, fun p zs hp dz => ?_⟩
      exact k _ h5 _ _ (XExt.new at_.so hp) (at_.lst hp (hF.symm ▸ dz))
    · exact h.elim
end
end DL

set_option Elab.async false
set_option linter.all false
set_option maxRecDepth 100000
set_option maxHeartbeats 4000000
namespace DL
open PySem L2
section
variable {X : Cx}
/-- list(d), d with tuples as keys -/
theorem call_list_O (hc : X.calm = true) : CallR X (.type "list") (fun xs H Q => ∃ d nk us ws, xs = [V.ref d] ∧ Rd H d (DictO d nk us ws) ∧ ∀ p, H p = none → Q (.ref p) (upd H p (.lst us))) := by
  intro pins s σ H xs us Q I r h
  obtain ⟨d, nk, us', ws, rfl, hd, q⟩ := h
  obtain ⟨u, rfl, rx⟩ := r.one
  cases rx
  obtain ⟨⟨hs, hl, ks, e1, nd, e2, rv, o, es, ep, ho, hx, hdt, he⟩, _⟩ := hd.ok I.hok
  have l1 : es.size = ks.length := by rw [← Array.length_toList, he, List.length_map]
  have l2 : us'.length = ks.length := by rw [← e2, List.length_map]
  refine PySem.W.kdl_call (kdl_raw hs hx hdt) (I.ok.hd hc) ho (by omega) fun h' tk acc' c' kp e it => ?_
  have ea : acc'.toList = ks.map fun x => Value.ref x.2.1 := by
    have hl : acc'.toList.length = ks.length := by rw [Array.length_toList, it.1]; exact l1
    apply List.ext_getElem?
    intro j
    rw [List.getElem?_map]
    cases hj : acc'.toList[j]? with
    | none =>
      have h1 := List.getElem?_eq_none_iff.mp hj
      rw [List.getElem?_eq_none (by omega)]
      all_goals rfl
    | some v =>
      obtain ⟨en, hen, hv⟩ := it.2 j v (by rw [← Array.getElem?_toList]; exact hj)
      have qe : es[j]? = (ks[j]?).map ent0 := by rw [← Array.getElem?_toList, he, List.getElem?_map]
      rw [hen] at qe
      cases hb : ks[j]? with
      | none =>
        rw [hb] at qe
        exact nomatch (show some en = none from qe)
      | some b =>
        rw [hb] at qe
        have e2 : en = ent0 b := Option.some.inj qe
        rw [hv, e2]
        all_goals rfl
  have eb : acc'.toList = (ks.map fun x => x.2.1).map Value.ref := by rw [ea, List.map_map]; all_goals rfl
  have eu : us' = (ks.map fun x => x.2.1).map V.ref := by rw [← e2, List.map_map]; rfl
  have rv' : Vals us' acc'.toList := by rw [eb, eu]; exact vals_refs _
  refine ⟨.ref s.heap.objs.size, _, I.laid (t' := tk) (o := .lst us') kp (Nat.le_refl _) ?_, rfl, q _ (I.hok.fresh (Nat.le_refl _))⟩
  exact ⟨hl, acc'.toList, c', rv', by rw [Array.toArray_toList]; exact e⟩
/-- list(d), d with ints and texts as keys, perhaps locked -/
theorem call_list_K (hc : X.calm = true) : CallR X (.type "list") (fun xs H Q => ∃ (p : Addr) (kvs : List (L2.Key × V)), xs = [V.ref p] ∧ Rd H p (.dK kvs) ∧ ∀ b, H b = none → Q (.ref b) (upd H b (.lst (kvs.map fun kv => kV kv.1)))) := by
  intro pins s σ H xs us Q I r h
  obtain ⟨p, kvs, e, hk, q⟩ := h
  subst e
  obtain ⟨u, eu, rx⟩ := vals1 r
  subst eu
  obtain rfl : u = Value.ref p := rx
  obtain ⟨z, lo, vs, rk, hd⟩ := dk_rd I.hok hk
  obtain ⟨ep, hat⟩ := hd.dictAt
  have hl : kvs.length = vs.length := Paired.length rk
  refine PySem.W.kdl_call (PySem.W.kdl_dict (knd := mixKind X.prog X.w) (kvs := vs) (ep := ep) lo) (I.ok.hd hc) hat (by rw [← hl]; exact z) fun h' tk acc' c' hkeep hS hacc => ?_
  refine ⟨.ref s.heap.objs.size, upd H s.heap.objs.size (.lst (kvs.map fun kv => kV kv.1)), I.laid hkeep (Nat.le_refl _) (show ObjOk X.prog X.w _ _ _ (.lst (kvs.map fun kv => kV kv.1)) from ⟨?_, acc'.toList, c', ?_, ?_⟩), rfl, q _ (I.hok.fresh (Nat.le_refl _))⟩
  · rw [List.length_map]; exact z
  · have el : acc'.toList.length = acc'.size := by simp
    refine vals_of_at (by rw [List.length_map, el, hacc.1, hl]) fun j x w h1 h2 => ?_
    obtain ⟨k, y, hky, hi⟩ := hacc.2 j w (by rw [← Array.getElem?_toList]; exact h2)
    have e1 : (kvs.map (·.1))[j]? = some k := by
      rw [KV.keys rk, List.getElem?_map, hky]; rfl
    have e2 : (kvs.map fun kv => kV kv.1)[j]? = some (kV k) := by
      have e3 : (kvs.map fun kv => kV kv.1) = (kvs.map (·.1)).map kV := by rw [List.map_map]; rfl
      rw [e3, List.getElem?_map, e1]; rfl
    rw [e2] at h1
    cases h1
    exact keyIs_rel hi
  · rw [Array.toArray_toList]; exact hS
theorem CallR.or {f : Value} {r r' : List V → Hp → VK → Prop} (h : CallR X f r) (h' : CallR X f r') : CallR X f (fun xs H Q => r xs H Q ∨ r' xs H Q) := fun pins s σ H xs us Q I rv q => q.elim (h pins s σ H xs us Q I rv) (h' pins s σ H xs us Q I rv)
def rListD : RCD := fun ds q => match ds with
  | [.dct ks _] => q (.lst ks)
  | _ => False
theorem c_listD (hc : X.calm = true) : CallD X (.type "list") rListD := by
  refine ⟨_, CallR.or (call_list_K hc) (call_list_O hc), fun F E H ds vs q Q hF at_ hv h k => ?_⟩
  unfold rListD at h
  split at h
  · rename_i ks vs'
    obtain ⟨v, rfl, a, us, ws, rfl, nW, dc, dk, dv⟩ := hv.one
    rcases dc with ⟨kvs, h1, h2, h3, h4⟩ | ⟨h1, h2⟩
    · refine .inl ⟨a, kvs, rfl, h1.rd, fun p hp => ?_⟩
      rw [← h2]
      exact k _ h _ _ (XExt.new at_.so hp) (at_.lst hp dk)
    · exact .inr ⟨a, _, us, ws, rfl, h1, fun p hp => k _ h _ _ (XExt.new at_.so hp) (at_.lst hp dk)⟩
  · exact h.elim
end
end DL

set_option Elab.async false
set_option linter.all false
set_option maxRecDepth 100000
set_option maxHeartbeats 4000000
namespace DL
open PySem L2
section
variable {X : Cx} {e a b c o i f value : Expr} {ta tb tc td tk tx tv : RE} {pos p p2 p' pos' pos2 : Pos} {es : List Expr}
theorem cr_setTI (hc : X.calm = true) : CallR X (.type "set") (fun xs H Q => ∃ (a : Addr) (ns : List Int), xs = [V.ref a] ∧ SqT X.K H a (ns.map V.int) ∧ ns.length < 60 ∧ ∀ p c, H p = none → c ≤ ns.length → Q (.ref p) (upd H p (SetO X.w p (fun j => decide (j ∈ ns)) c))) := by
  intro pins s σ H xs us Q I r h
  obtain ⟨a, ns, rfl, sq, hl, q⟩ := h
  obtain ⟨u, rfl, rx⟩ := r.one
  cases rx
  obtain ⟨its, rv, ht, hz⟩ := I.tuple sq
  refine call_set_tupI ns (I.ok.hd hc) ht (by simpa using rv.ints) (by unfold scanBound; omega) fun h' tk c hS hcl hk => ?_
  exact ⟨.ref s.heap.objs.size, _, I.laid (t' := tk) hk (Nat.le_refl _) (setO_new hS), rfl, q _ c (I.hok.fresh (Nat.le_refl _)) hcl⟩
/-- the ints of a tuple -/
def intsD : List D → Option (List Int)
  | [] => some []
  | .int i :: r => (intsD r).map (i :: ·)
  | _ => none
theorem intsD_of {K : PySem.W.Frag} {E : Addr → Prop} {H : Hp} : ∀ {ds : List D} {xs : List V} {ns : List Int}, DnA K E H ds xs → intsD ds = some ns → xs = ns.map V.int
  | [], _, _, h, e => by cases e; exact h
  | d :: ds, _, ns, ⟨x, r, ex, h1, h2⟩, e => by
    subst ex
    cases d with
    | int i =>
      cases q : intsD ds with
      | none => rw [intsD, q] at e; cases e
      | some ms =>
        rw [intsD, q] at e
        cases e
        rw [intsD_of h2 q, show x = .int i from h1]; rfl
    | _ => cases e
theorem ints_dna {K : PySem.W.Frag} {E : Addr → Prop} {H : Hp} : ∀ ms : List Int, DnA K E H (ms.map D.int) (ms.map V.int)
  | [] => rfl
  | m :: ms => ⟨_, _, rfl, rfl, ints_dna ms⟩
/-- sorted(set(t)), t a tuple of ints -/
def dsset (ta : RE) : RE := fun ρ q => ta ρ fun d => match d with
  | .tup ds => (match intsD ds with
    | some ns => ns.length < 60 ∧ ∀ ms : List Int, ms.Pairwise (· < ·) → (∀ k, k ∈ ms ↔ k ∈ ns) → q (.lst (ms.map D.int))
    | none => False)
  | _ => False
theorem e_sset (hc : X.calm = true) (hg : Gl X "sorted") (hm : X.mg "sorted" = none) (hg2 : Gl X "set") (hm2 : X.mg "set" = none) (ha : ED X a ta)
    (h1 : starEach [a] X.env = (false, eval a X.env) :: starEach [] X.env := by rfl) (h2 : starEach [.Call (.Name "set" p2) [a] [] pos2] X.env = (false, eval (.Call (.Name "set" p2) [a] [] pos2) X.env) :: starEach [] X.env := by rfl)
    (hp1 : (backTo pos (starEach [] X.env)).any (·.1) = false := by rfl) (hp2 : (backTo pos2 (starEach [] X.env)).any (·.1) = false := by rfl) :
    ED X (.Call (.Name "sorted" p) [.Call (.Name "set" p2) [a] [] pos2] [] pos) (dsset ta) := fun F hF => by
  refine (pe_callB (cr_sortedSet hc) hg hm PyProof.Rows.boot_sorted (pa_cons (pe_callTy (cr_setTI hc) hg2 hm2 PyProof.Rows.boot_set (pa_cons (ha F hF) pa_nil h1) (by decide) (by decide) h1 hp2) pa_nil h2) (by decide) (by decide) h2 hp1).imp fun σ H Q => ?_
  rintro ⟨E, ρ, q, env, h, k⟩
  refine ⟨E, ρ, _, env, h, fun d hd v H1 x1 hv => ?_⟩
  have e1 := env.step x1
  cases d with
  | tup ds =>
    obtain ⟨a', xs, rfl, t, g⟩ := hv
    have hd' : (match intsD ds with | some ns => ns.length < 60 ∧ ∀ ms : List Int, ms.Pairwise (· < ·) → (∀ k, k ∈ ms ↔ k ∈ ns) → q (.lst (ms.map D.int)) | none => False) := hd
    cases qi : intsD ds with
    | none => rw [qi] at hd'; exact hd'.elim
    | some ns =>
      rw [qi] at hd'
      have ex := intsD_of g qi
      subst ex
      refine ⟨a', ns, rfl, hF ▸ t.sq, hd'.1, fun p c hp hcl => ?_⟩
      have x2 : XExt F H1 (upd H1 p (SetO X.w p (fun j => decide (j ∈ ns)) c)) := XExt.new e1.so hp
      refine ⟨p, _, c, rfl, upd_same, by omega, fun ms p3 hms hmem hlen hp3 => ?_⟩
      have e2 := e1.step x2
      exact k _ (hd'.2 ms hms (fun k => by simpa using hmem k)) _ _ (x1.trans (x2.trans (XExt.new e2.so hp3))) (e2.at_.lst hp3 (ints_dna ms))
  | _ => exact (show False from hd).elim
end
end DL

set_option Elab.async false
set_option linter.all false
set_option maxRecDepth 100000
set_option maxHeartbeats 4000000
namespace DL
open PySem L2
section
variable {X : Cx} {e : Expr} {ta : RE} {pos : Pos}
/-- the truth of a bool, of None -/
def dtru (t : RE) : RT := fun ρ q => t ρ fun d => match d with
  | .bl b => q b
  | .non => q false
  | _ => False
theorem t_tru (h : ED X e ta) (he : ∀ whole, isTrue e X.env whole = (do let v ← whole; standAt e.pos; holding [v] (truthy v)) := by intro _; rfl) : TD X e (dtru ta) := fun F hF =>
  (pt_truth (h F hF) he).imp fun σ H Q h => by
    obtain ⟨E, ρ, q, env, hq, k⟩ := h
    refine ⟨E, ρ, _, env, hq, fun d hd v H' x hv => ?_⟩
    cases d with
    | bl b =>
      have hv' : v = .bl b := hv
      subst hv'
      exact ⟨b, rfl, k b hd H' x⟩
    | non =>
      have hv' : v = .non := hv
      subst hv'
      exact ⟨false, rfl, k false hd H' x⟩
    | _ => exact hd.elim
end
end DL

set_option Elab.async false
set_option linter.all false
set_option maxRecDepth 100000
set_option maxHeartbeats 4000000
namespace DL
open PySem L2
/-! ### readings, worked out -/
section
variable {ρ : Rho} {q : D → Prop} {ql : List D → Prop} {qb : Bool → Prop} {Z : DEnds} {ta tb tc te : RE} {t u : RS} {c d : RT} {tl w : RL} {ra : RA} {qa : List Sl → Prop}
@[simp] theorem x_dvar {i} : dvar i ρ q = (match ρ[i]? with | some (some (.im d)) => q d | _ => False) := rfl
@[simp] theorem x_bvar {i} : bvar i ρ q = (match ρ[i]? with | some (some (.im d)) => q d | some (some (.ml ds)) => q (.lst ds) | some (some (.md ks vs)) => q (.dct ks vs) | _ => False) := rfl
@[simp] theorem x_dcon {x} : dcon x ρ q = q x := rfl
@[simp] theorem x_dop {r} : dop r ta tb ρ q = ta ρ fun x => tb ρ fun y => r x y q := rfl
@[simp] theorem x_dchain {r r'} : dchain r r' ta tb tc ρ q = ta ρ fun x => tb ρ fun y => r x y fun z => (match z with | .bl k => if k = true then tc ρ fun w => r' y w q else q (.bl false) | _ => False) := rfl
@[simp] theorem x_dtru : dtru ta ρ qb = ta ρ fun d => (match d with | .bl b => qb b | .non => qb false | _ => False) := rfl
@[simp] theorem x_dtest : dtest ta ρ qb = ta ρ fun d => (match d with | .bl b => qb b | _ => False) := rfl
@[simp] theorem x_dand : dand c d ρ qb = c ρ fun k => if k = true then d ρ qb else qb false := rfl
@[simp] theorem x_dor : dor c d ρ qb = c ρ fun k => if k = true then qb true else d ρ qb := rfl
@[simp] theorem x_dnot : dnot c ρ qb = c ρ fun k => qb (!k) := rfl
@[simp] theorem x_dyes : dyes ρ qb = qb true := rfl
@[simp] theorem x_dandv : dandv ta tb ρ q = ta ρ fun d => (match d with | .bl c => if c = true then tb ρ q else q (.bl false) | _ => False) := rfl
@[simp] theorem x_dorv : dorv ta tb ρ q = ta ρ fun d => (match d with | .bl c => if c = true then q (.bl true) else tb ρ q | _ => False) := rfl
@[simp] theorem x_dnotv : dnotv ta ρ q = ta ρ fun d => (match d with | .bl c => q (.bl (!c)) | _ => False) := rfl
@[simp] theorem x_dneg : dneg ta ρ q = ta ρ fun d => (match d with | .int i => q (.int (-i)) | _ => False) := rfl
@[simp] theorem x_dif : dif c ta tb ρ q = c ρ fun k => if k = true then ta ρ q else tb ρ q := rfl
@[simp] theorem x_lnil : lnil ρ ql = ql [] := rfl
@[simp] theorem x_lcons : lcons ta tl ρ ql = ta ρ fun d => tl ρ fun ds => ql (d :: ds) := rfl
@[simp] theorem x_dtup : dtup tl ρ q = tl ρ fun ds => ds.length ≤ sizeLine ∧ q (.tup ds) := rfl
@[simp] theorem x_dlst : dlst tl ρ q = tl ρ fun ds => ds.length ≤ sizeLine ∧ q (.lst ds) := rfl
@[simp] theorem x_flst : flst tl ρ ql = tl ρ fun ds => ds.length ≤ sizeLine ∧ ql ds := rfl
@[simp] theorem x_flst_ : flst_ tl ρ q = tl ρ fun ds => q (.lst ds) := rfl
@[simp] theorem x_dcall {r} : dcall r tl ρ q = tl ρ fun ds => r ds q := rfl
@[simp] theorem x_disi {T} : disi T ta ρ q = ta ρ fun d => d.plain = true ∧ q (.bl (isaS (tyD d) T)) := rfl
@[simp] theorem x_disi2 {T U} : disi2 T U ta ρ q = ta ρ fun d => d.plain = true ∧ q (.bl (isaS (tyD d) T || isaS (tyD d) U)) := rfl
@[simp] theorem x_anil : anil ρ qa = qa [] := rfl
@[simp] theorem x_acons : acons ta ra ρ qa = ta ρ fun d => ra ρ fun ss => qa (.im d :: ss) := rfl
@[simp] theorem x_asrc {i} : asrc i ra ρ qa = (match ρ[i]? with | some (some .src) => ra ρ fun ss => qa (.src :: ss) | _ => False) := rfl
@[simp] theorem x_kml : kml tl ra ρ qa = tl ρ fun ds => ra ρ fun ss => qa (.ml ds :: ss) := rfl
@[simp] theorem x_dcallf {tf} : dcallf tf ra ρ q = ra ρ fun ss => tf ss q := rfl
@[simp] theorem x_dfld {C f} : dfld C f ta ρ q = ta ρ fun d => (match d with | .obj c ns ds => c = C ∧ (match (ns.zip ds).lookup f with | some d => q d | none => False) | _ => False) := rfl
@[simp] theorem x_dmake {C tf} : dmake C tf ta ρ q = ta ρ fun d => tf [.im d] fun _ => q (.obj C ["rows"] [d]) := rfl
@[simp] theorem x_dno {qo} : dno ρ qo = qo none := rfl
@[simp] theorem x_dpart {qo} : dpart ta ρ qo = ta ρ fun d => (match d with | .int i => qo (some i) | _ => False) := rfl
@[simp] theorem x_dsl {l v} : dsl ta l v ρ q = ta ρ fun d => l ρ fun lo => v ρ fun hi => (match d with | .tup ds => q (.tup (cut ds lo hi)) | .lst ds => q (.lst (cut ds lo hi)) | _ => False) := rfl
@[simp] theorem x_ilst : ilst ta ρ ql = ta ρ fun d => (match d with | .lst ds => ql ds | _ => False) := rfl
@[simp] theorem x_itup : itup ta ρ ql = ta ρ fun d => (match d with | .tup ds => ql ds | _ => False) := rfl
@[simp] theorem x_ienum : ienum ta ρ ql = ta ρ fun d => (match d with | .tup ds => ql (pairs 0 ds) | _ => False) := rfl
@[simp] theorem x_irng1 : irng1 ta ρ ql = ta ρ fun d => (match d with | .int j => (-(2 ^ 62) ≤ j ∧ j < 2 ^ 62) ∧ ql (nums 0 j.toNat) | _ => False) := rfl
@[simp] theorem x_irng2 : irng2 ta tb ρ ql = ta ρ fun d => tb ρ fun e => (match d, e with | .int i, .int j => (-(2 ^ 62) ≤ i ∧ i < 2 ^ 62 ∧ -(2 ^ 62) ≤ j ∧ j < 2 ^ 62) ∧ ql (nums i (j - i).toNat) | _, _ => False) := rfl
@[simp] theorem x_flc {vs T} : flc w vs T c te ρ ql = w ρ fun ds => lcdo T c te (wipeR ρ vs) ds [] ql := rfl
@[simp] theorem x_snext : snext Z ρ = Z.nx ρ := rfl
@[simp] theorem x_sbrk : sbrk Z ρ = Z.bk ρ := rfl
@[simp] theorem x_scnt : scnt Z ρ = Z.ct ρ := rfl
@[simp] theorem x_snever : snever Z ρ = False := rfl
@[simp] theorem x_sseq : sseq t u Z ρ = t { Z with nx := u Z } ρ := rfl
@[simp] theorem x_sexpr : sexpr te Z ρ = te ρ fun _ => Z.nx ρ := rfl
@[simp] theorem x_sret : sret te Z ρ = te ρ Z.rt := rfl
@[simp] theorem x_sretn : sretn Z ρ = Z.rt .non := rfl
@[simp] theorem x_sif : sif c t u Z ρ = c ρ fun b => if b = true then t Z ρ else u Z ρ := rfl
@[simp] theorem x_sset {i} : sset i te Z ρ = te ρ fun d => Z.nx (ρ.set i (some (.im d))) := rfl
@[simp] theorem x_sown {i} : sown i tl Z ρ = tl ρ fun ds => Z.nx (ρ.set i (some (.ml ds))) := rfl
@[simp] theorem x_sapp {i} : sapp i te Z ρ = (match ρ[i]? with | some (some (.ml ds)) => te ρ fun d => ds.length < sizeLine ∧ Z.nx (ρ.set i (some (.ml (ds ++ [d])))) | _ => False) := rfl
@[simp] theorem x_sfrz {i} : sfrz i t Z ρ = (match ρ[i]? with | some (some (.ml ds)) => t Z (ρ.set i (some (.im (.lst ds)))) | some (some (.md ks vs)) => t Z (ρ.set i (some (.im (.dct ks vs)))) | some (some (.im d)) => t Z ρ | _ => False) := rfl
@[simp] theorem x_sfor {T} : sfor w T t Z ρ = w ρ fun ds => fordo T t Z ds ρ := rfl
@[simp] theorem x_spar {i j} : spar i j ra Z ρ = ra ρ fun ss => (match ss with | [s, t] => Z.nx ((ρ.set i (some s)).set j (some t)) | _ => False) := rfl
@[simp] theorem x_spar3 {i j l} : spar3 i j l ra Z ρ = ra ρ fun ss => (match ss with | [s, t, u] => Z.nx (((ρ.set i (some s)).set j (some t)).set l (some u)) | _ => False) := rfl
@[simp] theorem x_sunp {T} : sunp T te Z ρ = te ρ fun d => (match Tg.put T d ρ with | some ρ' => Z.nx ρ' | none => False) := rfl
@[simp] theorem x_one {i e} : Tg.put (.one i) e ρ = some (ρ.set i (some (.im e))) := rfl
@[simp] theorem x_many {is ds} : Tg.put (.many is) (.tup ds) ρ = putAll is ds ρ := rfl
@[simp] theorem x_put0 : putAll [] [] ρ = some ρ := rfl
@[simp] theorem x_put1 {i is e ds} : putAll (i :: is) (e :: ds) ρ = putAll is ds (ρ.set i (some (.im e))) := rfl
@[simp] theorem x_wipe0 : wipeR ρ [] = ρ := rfl
@[simp] theorem x_wipe1 {v vs} : wipeR ρ (v :: vs) = (wipeR ρ vs).set v none := rfl
@[simp] theorem x_iteT {α : Type} (a b : α) : (if true = true then a else b) = a := rfl
@[simp] theorem x_iteF {α : Type} (a b : α) : (if false = true then a else b) = b := rfl
@[simp] theorem x_rLenT {xs} : rLen [.tup xs] q = q (.int xs.length) := rfl
@[simp] theorem x_rLenL {xs} : rLen [.lst xs] q = q (.int xs.length) := rfl
@[simp] theorem x_rInt {i} : rInt [.int i] q = q (.int i) := rfl
@[simp] theorem x_rTupT {xs} : rTuple [.tup xs] q = q (.tup xs) := rfl
@[simp] theorem x_rTupL {xs} : rTuple [.lst xs] q = q (.tup xs) := rfl
@[simp] theorem x_rListT {xs} : rList [.tup xs] q = q (.lst xs) := rfl
@[simp] theorem x_rListL {xs} : rList [.lst xs] q = q (.lst xs) := rfl
@[simp] theorem x_rMax2 {i j} : rMax2 [.int i, .int j] q = q (.int (if j > i then j else i)) := rfl
@[simp] theorem x_rMin2 {i j} : rMin2 [.int i, .int j] q = q (.int (if j < i then j else i)) := rfl
@[simp] theorem x_rAll {xs} : rAll [.lst xs] q = (match bools xs with | some bs => q (.bl (bs.all id)) | none => False) := rfl
@[simp] theorem x_rAny {xs} : rAny [.lst xs] q = (match bools xs with | some bs => q (.bl (bs.any id)) | none => False) := rfl
@[simp] theorem x_rAddI {i j} : rAdd (.int i) (.int j) q = q (.int (i + j)) := rfl
@[simp] theorem x_rAddT {a b} : rAdd (.tup a) (.tup b) q = (a.length + b.length ≤ sizeLine ∧ q (.tup (a ++ b))) := rfl
@[simp] theorem x_rAddL {a b} : rAdd (.lst a) (.lst b) q = (a.length + b.length ≤ sizeLine ∧ q (.lst (a ++ b))) := rfl
@[simp] theorem x_rSub {i j} : rSub (.int i) (.int j) q = q (.int (i - j)) := rfl
@[simp] theorem x_rMod {i j} : rMod (.int i) (.int j) q = (0 < j ∧ q (.int (i % j))) := rfl
@[simp] theorem x_rFdiv {i j} : rFdiv (.int i) (.int j) q = (CDiv i j ∧ q (.int (i / j))) := rfl
@[simp] theorem x_rMul {i j} : rMul (.int i) (.int j) q = (CMul i j ∧ q (.int (i * j))) := rfl
@[simp] theorem x_rMulT {xs k} : rMul (.tup xs) (.int k) q = (xs ≠ [] ∧ 2 ≤ k ∧ k ≤ 1000 ∧ xs.length ≤ 1000 ∧ q (.tup (List.replicate k.toNat xs).flatten)) := rfl
@[simp] theorem x_rMulL {xs k} : rMul (.lst xs) (.int k) q = (0 ≤ k ∧ k ≤ 1000 ∧ xs.length ≤ 1000 ∧ q (.lst (List.replicate k.toNat xs).flatten)) := rfl
@[simp] theorem x_rLt {i j} : rLt (.int i) (.int j) q = q (.bl (decide (i < j))) := rfl
@[simp] theorem x_rLe {i j} : rLe (.int i) (.int j) q = q (.bl (decide (i ≤ j))) := rfl
@[simp] theorem x_rGt {i j} : rGt (.int i) (.int j) q = q (.bl (decide (j < i))) := rfl
@[simp] theorem x_rGe {i j} : rGe (.int i) (.int j) q = q (.bl (decide (j ≤ i))) := rfl
@[simp] theorem x_rEq {x y} : rEq x y q = (x.fit = true ∧ y.fit = true ∧ q (.bl (x.eqv y))) := rfl
@[simp] theorem x_rNe {x y} : rNe x y q = (x.fit = true ∧ y.fit = true ∧ q (.bl (!x.eqv y))) := rfl
@[simp] theorem x_rIs {x} : rIs x .non q = q (.bl x.isNon) := rfl
@[simp] theorem x_rIsNot {x} : rIsNot x .non q = q (.bl (!x.isNon)) := rfl
@[simp] theorem x_rInT {x ds} : rIn x (.tup ds) q = (x.flat = true ∧ ds.all D.flat = true ∧ q (.bl (isIn x ds))) := rfl
@[simp] theorem x_rInL {x ds} : rIn x (.lst ds) q = (x.fit = true ∧ (D.lst ds).fit = true ∧ q (.bl (isIn x ds))) := rfl
@[simp] theorem x_rNotInT {x ds} : rNotIn x (.tup ds) q = (x.flat = true ∧ ds.all D.flat = true ∧ q (.bl (!isIn x ds))) := rfl
@[simp] theorem x_rNotInL {x ds} : rNotIn x (.lst ds) q = (x.fit = true ∧ (D.lst ds).fit = true ∧ q (.bl (!isIn x ds))) := rfl
@[simp] theorem x_rIxT {ds i} : rIx (.tup ds) (.int i) q = (match atI ds i with | some d => q d | none => False) := rfl
@[simp] theorem x_rIxL {ds i} : rIx (.lst ds) (.int i) q = (match atI ds i with | some d => q d | none => False) := rfl
@[simp] theorem x_isNon0 : D.isNon .non = true := rfl
@[simp] theorem x_isNonB {b} : D.isNon (.bl b) = false := rfl
@[simp] theorem x_isNonI {b} : D.isNon (.int b) = false := rfl
@[simp] theorem x_isNonS {b} : D.isNon (.str b) = false := rfl
@[simp] theorem x_isNonT {b} : D.isNon (.tup b) = false := rfl
@[simp] theorem x_isNonL {b} : D.isNon (.lst b) = false := rfl
@[simp] theorem x_plainN : D.plain .non = true := rfl
@[simp] theorem x_plainB {b} : D.plain (.bl b) = true := rfl
@[simp] theorem x_plainI {b} : D.plain (.int b) = true := rfl
@[simp] theorem x_plainS {b} : D.plain (.str b) = true := rfl
@[simp] theorem x_plainT {b} : D.plain (.tup b) = true := rfl
@[simp] theorem x_plainL {b} : D.plain (.lst b) = true := rfl
@[simp] theorem x_tyN : tyD .non = "NoneType" := rfl
@[simp] theorem x_tyB {b} : tyD (.bl b) = "bool" := rfl
@[simp] theorem x_tyI {b} : tyD (.int b) = "int" := rfl
@[simp] theorem x_tyS {b} : tyD (.str b) = "str" := rfl
@[simp] theorem x_tyT {b} : tyD (.tup b) = "tuple" := rfl
@[simp] theorem x_tyL {b} : tyD (.lst b) = "list" := rfl
@[simp] theorem x_flatI {i} : D.flat (.int i) = true := rfl
@[simp] theorem x_flatN : D.flat .non = true := rfl
@[simp] theorem x_flatB {i} : D.flat (.bl i) = true := rfl
@[simp] theorem x_flatS {i} : D.flat (.str i) = true := rfl
end
@[simp] theorem fit_int {i : Int} : (D.int i).fit = true := rfl
@[simp] theorem fit_bl {b : Bool} : (D.bl b).fit = true := rfl
@[simp] theorem fit_non : D.non.fit = true := rfl
@[simp] theorem eqv_int {i j : Int} : (D.int i).eqv (.int j) = decide (i = j) := rfl
@[simp] theorem eqv_bl {i j : Bool} : (D.bl i).eqv (.bl j) = (i == j) := rfl
/-- the draw -/
theorem next_ {cap : Int} {q : D → Prop} (h0 : 0 < cap) (h1 : cap < 1073741824) (h : ∀ r : Nat, (r : Int) < cap → q (.int r)) : m_next [.src, .im (.int cap)] q := by
  refine ⟨h0, h1, fun r hr hl => ?_⟩
  have := h r.toNat (by omega)
  rwa [Int.toNat_of_nonneg hr] at this
/-- a loop by an invariant over what is left -/
theorem fordo_inv {T : Tg} {tb : RS} {Z : DEnds} (I : List D → Rho → Prop) (h0 : ∀ ρ, I [] ρ → Z.nx ρ)
    (h1 : ∀ d ds ρ, I (d :: ds) ρ → ∃ ρ', T.put d ρ = some ρ' ∧ ∀ nx : Rho → Prop, (∀ ρ2, I ds ρ2 → nx ρ2) → tb { Z with nx := nx, ct := nx, bk := Z.nx } ρ') :
    ∀ ds ρ, I ds ρ → fordo T tb Z ds ρ
  | [], ρ, h => h0 ρ h
  | d :: ds, ρ, h => by
    obtain ⟨ρ', e, k⟩ := h1 d ds ρ h
    unfold fordo
    rw [e]
    exact k _ fun ρ2 h2 => fordo_inv I h0 h1 ds ρ2 h2
theorem fordo_nil {T : Tg} {tb : RS} {Z : DEnds} {ρ : Rho} : fordo T tb Z [] ρ = Z.nx ρ := rfl
theorem fordo_cons {T : Tg} {tb : RS} {Z : DEnds} {ρ : Rho} {d : D} {ds : List D} : fordo T tb Z (d :: ds) ρ = (match T.put d ρ with
    | some ρ' => tb { Z with nx := fordo T tb Z ds, ct := fordo T tb Z ds, bk := Z.nx } ρ'
    | none => False) := rfl
theorem lcdo_nil {T : Tg} {tt : RT} {te : RE} {ρ : Rho} {acc : List D} {q : List D → Prop} : lcdo T tt te ρ [] acc q = q acc := rfl
theorem lcdo_cons {T : Tg} {tt : RT} {te : RE} {ρ ρ' : Rho} {acc ds : List D} {d : D} {q : List D → Prop} (e : T.put d ρ = some ρ') : lcdo T tt te ρ (d :: ds) acc q = tt ρ' fun b => if b = true then te ρ' fun y => acc.length < sizeLine ∧ lcdo T tt te ρ ds (acc ++ [y]) q else lcdo T tt te ρ ds acc q := by
  conv => lhs; unfold lcdo
  rw [e]
/-- a comprehension whose items are told -/
theorem lcdo_map {T : Tg} {te : RE} {ρ : Rho} (f : D → D) : ∀ (ds acc : List D) (q : List D → Prop), (∀ d ∈ ds, ∃ ρ', T.put d ρ = some ρ' ∧ ∀ q' : D → Prop, q' (f d) → te ρ' q') →
    acc.length + ds.length ≤ sizeLine → q (acc ++ ds.map f) → lcdo T dyes te ρ ds acc q
  | [], acc, q, _, _, hq => by rw [lcdo_nil]; simpa using hq
  | d :: ds, acc, q, h, hl, hq => by
    obtain ⟨ρ', e, k⟩ := h d (List.mem_cons_self ..)
    rw [lcdo_cons e, x_dyes, if_pos rfl]
    rw [List.length_cons] at hl
    refine k _ ⟨by omega, lcdo_map f ds _ q (fun d hd => h d (List.mem_cons_of_mem _ hd)) ?_ (by simpa using hq)⟩
    rw [List.length_append, List.length_singleton]; omega
/-- .. with a test -/
theorem lcdo_filter {T : Tg} {tt : RT} {te : RE} {ρ : Rho} (p : D → Bool) (f : D → D) : ∀ (ds acc : List D) (q : List D → Prop),
    (∀ d ∈ ds, ∃ ρ', T.put d ρ = some ρ' ∧ (∀ q' : Bool → Prop, q' (p d) → tt ρ' q') ∧ (p d = true → ∀ q' : D → Prop, q' (f d) → te ρ' q')) →
    acc.length + ds.length ≤ sizeLine → q (acc ++ (ds.filter p).map f) → lcdo T tt te ρ ds acc q
  | [], acc, q, _, _, hq => by rw [lcdo_nil]; simpa using hq
  | d :: ds, acc, q, h, hl, hq => by
    obtain ⟨ρ', e, k1, k2⟩ := h d (List.mem_cons_self ..)
    rw [lcdo_cons e]
    rw [List.length_cons] at hl
    refine k1 _ ?_
    cases hp : p d with
    | true =>
      rw [if_pos rfl]
      refine k2 hp _ ⟨by omega, lcdo_filter p f ds _ q (fun d hd => h d (List.mem_cons_of_mem _ hd)) ?_ ?_⟩
      · rw [List.length_append, List.length_singleton]; omega
      · rw [List.filter_cons_of_pos hp] at hq; simpa using hq
    | false =>
      rw [if_neg Bool.false_ne_true]
      refine lcdo_filter p f ds _ q (fun d hd => h d (List.mem_cons_of_mem _ hd)) (by omega) ?_
      rw [List.filter_cons_of_neg (by rw [hp]; exact Bool.false_ne_true)] at hq; exact hq
/-- .. whose items are drawn -/
theorem lcdo_any {T : Tg} {te : RE} {ρ : Rho} (S : D → D → Prop) : ∀ (ds acc : List D) (q : List D → Prop), (∀ d ∈ ds, ∃ ρ', T.put d ρ = some ρ' ∧ ∀ q' : D → Prop, (∀ y, S d y → q' y) → te ρ' q') →
    acc.length + ds.length ≤ sizeLine → (∀ ys, ys.length = ds.length → (∀ (i : Nat) d y, ds[i]? = some d → ys[i]? = some y → S d y) → q (acc ++ ys)) → lcdo T dyes te ρ ds acc q
  | [], acc, q, _, _, hq => by rw [lcdo_nil]; simpa using hq [] rfl (by simp)
  | d :: ds, acc, q, h, hl, hq => by
    obtain ⟨ρ', e, k⟩ := h d (List.mem_cons_self ..)
    rw [lcdo_cons e, x_dyes, if_pos rfl]
    rw [List.length_cons] at hl
    refine k _ fun y hy => ⟨by omega, lcdo_any S ds _ q (fun d hd => h d (List.mem_cons_of_mem _ hd)) ?_ fun ys hys hs => ?_⟩
    · rw [List.length_append, List.length_singleton]; omega
    · have := hq (y :: ys) (by simp [hys]) (fun i d' y' h1 h2 => by
        cases i with
        | zero => simp at h1 h2; rw [← h1, ← h2]; exact hy
        | succ i => exact hs i d' y' (by simpa using h1) (by simpa using h2))
      simpa using this
/-- tf at ss gives d -/
def Ret (tf : RF) (ss : List Sl) (d : D) : Prop := ∀ q : D → Prop, q d → tf ss q
/-- .. some d of S -/
def Rets (tf : RF) (ss : List Sl) (S : D → Prop) : Prop := ∀ q : D → Prop, (∀ d, S d → q d) → tf ss q
@[simp] theorem nums_len {lo : Int} {n : Nat} : (nums lo n).length = n := ints_len lo n
theorem nums_mem {lo : Int} {n : Nat} {d : D} (h : d ∈ nums lo n) : ∃ i : Nat, i < n ∧ d = .int (lo + i) := by
  unfold nums at h
  obtain ⟨i, h1, h2⟩ := List.mem_map.mp h
  exact ⟨i, List.mem_range.mp h1, h2.symm⟩
theorem nums_succ {lo : Int} {n : Nat} : nums lo (n + 1) = .int lo :: nums (lo + 1) n := by
  unfold nums
  rw [List.range_succ_eq_map, List.map_cons, List.map_map]
  simp only [Function.comp_def]
  refine congr (congrArg _ (by simp)) (List.map_congr_left fun i _ => ?_)
  congr 1
  push_cast
  omega
theorem nums_zero {lo : Int} : nums lo 0 = [] := rfl
section
variable {ρ : Rho} {q : D → Prop} {Z : DEnds} {ta tb tc td tk tx tv te : RE} {t : RDD} {qd : List D → List D → Prop} {ra : RA} {qa : List Sl → Prop}
@[simp] theorem x_rInD {x ks vs} : rInD x (.dct ks vs) q = (kok ks x = true ∧ q (.bl (kix ks x).isSome)) := rfl
@[simp] theorem x_rNotInD {x ks vs} : rNotInD x (.dct ks vs) q = (kok ks x = true ∧ q (.bl (!(kix ks x).isSome))) := rfl
@[simp] theorem x_rIxD {x ks vs} : rIxD (.dct ks vs) x q = (kok ks x = true ∧ (match kget ks vs x with | some d => q d | none => False)) := rfl
@[simp] theorem x_ddget2 : ddget2 td tk tx ρ q = td ρ fun d => (match d with | .dct ks vs => tk ρ fun y => tx ρ fun z => kok ks y = true ∧ vs.length = ks.length ∧ q ((kget ks vs y).getD z) | _ => False) := rfl
@[simp] theorem x_ddget1 : ddget1 td tk ρ q = td ρ fun d => (match d with | .dct ks vs => tk ρ fun y => kok ks y = true ∧ vs.length = ks.length ∧ q ((kget ks vs y).getD .non) | _ => False) := rfl
@[simp] theorem x_sput {j} : sput j tk tv Z ρ = tv ρ fun y => (match ρ[j]? with | some (some (.md ks vs)) => tk ρ fun x => kok ks x = true ∧ vs.length = ks.length ∧ ks.length < sizeLine ∧ Z.nx (ρ.set j (some (.md (kputK ks x) (kputV ks vs x y)))) | _ => False) := rfl
@[simp] theorem x_fdnew : fdnew ρ qd = qd [] [] := rfl
@[simp] theorem x_fdisp : fdisp tk tv ρ qd = tk ρ fun x => tv ρ fun y => x.tkey = true ∧ qd [x] [y] := rfl
@[simp] theorem x_fddct : fddct_ t ρ q = t ρ fun ks vs => q (.dct ks vs) := rfl
@[simp] theorem x_sownD {j} : sownD j t Z ρ = t ρ fun ks vs => Z.nx (ρ.set j (some (.md ks vs))) := rfl
@[simp] theorem x_kmd : kmd t ra ρ qa = t ρ fun ks vs => ra ρ fun ss => qa (.md ks vs :: ss) := rfl
@[simp] theorem x_rSorted {xs} : DL.rSorted [.lst xs] q = ((D.lst xs).fit = true ∧ PySem.W.AllAlike (xs.map D.py) ∧ PySem.W.Sortable (xs.map D.py) ∧ xs.length ≤ sizeLine ∧ q (.lst (xs.mergeSort (PySem.W.dataLe false D.py)))) := rfl
@[simp] theorem x_rListD {ks vs} : DL.rListD [.dct ks vs] q = q (.lst ks) := rfl
@[simp] theorem x_dsset : dsset ta ρ q = ta ρ fun d => (match d with | .tup ds => (match intsD ds with | some ns => ns.length < 60 ∧ ∀ ms : List Int, ms.Pairwise (· < ·) → (∀ k, k ∈ ms ↔ k ∈ ns) → q (.lst (ms.map D.int)) | none => False) | _ => False) := rfl
end
/-! ### typed dicts -/
section
variable {κ α : Type} [DecidableEq κ]
/-- an assoc list: what stands at k; k put -/
def aget (m : List (κ × α)) (k : κ) : Option α := (m.find? fun p => decide (p.1 = k)).map (·.2)
def aput (m : List (κ × α)) (k : κ) (v : α) : List (κ × α) := if (aget m k).isSome then m.map (fun p => if p.1 = k then (p.1, v) else p) else m ++ [(k, v)]
theorem aget_nil (k : κ) : aget ([] : List (κ × α)) k = none := rfl
theorem aget_cons (p : κ × α) (m : List (κ × α)) (k : κ) : aget (p :: m) k = if p.1 = k then some p.2 else aget m k := by
  unfold aget
  rw [List.find?_cons]
  by_cases e : p.1 = k
  · simp [e]
  · simp [e]
theorem aget_mem {m : List (κ × α)} {k : κ} {v : α} (h : aget m k = some v) : (k, v) ∈ m := by
  induction m with
  | nil => cases h
  | cons p m ih =>
    rw [aget_cons] at h
    split at h
    · rename_i e
      cases h
      rw [← e]
      exact List.mem_cons_self ..
    · exact List.mem_cons_of_mem _ (ih h)
theorem aget_none {m : List (κ × α)} {k : κ} : aget m k = none ↔ k ∉ m.map (·.1) := by
  induction m with
  | nil => simp [aget_nil]
  | cons p m ih =>
    rw [aget_cons]
    by_cases e : p.1 = k
    · simp [e]
    · rw [if_neg e, ih]
      simp [Ne.symm e]
theorem aget_isSome {m : List (κ × α)} {k : κ} : (aget m k).isSome = true ↔ k ∈ m.map (·.1) := by
  have := aget_none (m := m) (k := k)
  cases h : aget m k with
  | none => rw [h] at this; simp at this ⊢; exact this
  | some v =>
    simp
    exact ⟨v, aget_mem h⟩
theorem aget_map (m : List (κ × α)) (k j : κ) (v : α) : aget (m.map fun p => if p.1 = k then (p.1, v) else p) j = (aget m j).map fun x => if j = k then v else x := by
  induction m with
  | nil => rfl
  | cons p m ih =>
    rw [List.map_cons, aget_cons, aget_cons, ih]
    by_cases e : p.1 = k
    · rw [if_pos e]
      by_cases e2 : p.1 = j
      · rw [if_pos e2, if_pos e2, Option.map_some, if_pos (e2 ▸ e)]
      · rw [if_neg e2, if_neg e2]
    · rw [if_neg e]
      by_cases e2 : p.1 = j
      · rw [if_pos e2, if_pos e2, Option.map_some, if_neg (fun z => e (e2.trans z))]
      · rw [if_neg e2, if_neg e2]
theorem aget_app (m l : List (κ × α)) (k : κ) : aget (m ++ l) k = (aget m k).or (aget l k) := by
  induction m with
  | nil => rfl
  | cons p m ih =>
    rw [List.cons_append, aget_cons, aget_cons, ih]
    split <;> rfl
theorem aget_aput (m : List (κ × α)) (k j : κ) (v : α) : aget (aput m k v) j = if j = k then some v else aget m j := by
  unfold aput
  by_cases h : (aget m k).isSome = true
  · rw [if_pos h, aget_map]
    by_cases e : j = k
    · subst e
      rw [if_pos rfl]
      obtain ⟨x, hx⟩ := Option.isSome_iff_exists.mp h
      rw [hx, Option.map_some, if_pos rfl]
    · rw [if_neg e]
      cases aget m j with
      | none => rfl
      | some x => rw [Option.map_some, if_neg e]
  · rw [if_neg h, aget_app]
    have hn : aget m k = none := by
      cases q : aget m k with
      | none => rfl
      | some x => rw [q] at h; exact (h rfl).elim
    by_cases e : j = k
    · subst e
      rw [hn, aget_cons, if_pos rfl, if_pos rfl]; rfl
    · rw [if_neg e, aget_cons, if_neg (fun z => e z.symm), aget_nil]
      cases aget m j <;> rfl
theorem aput_keys (m : List (κ × α)) (k : κ) (v : α) : (aput m k v).map (·.1) = if (aget m k).isSome = true then m.map (·.1) else m.map (·.1) ++ [k] := by
  unfold aput
  split
  · rw [List.map_map]
    refine List.map_congr_left fun p _ => ?_
    simp only [Function.comp]
    split <;> rfl
  · rw [List.map_append]; rfl
theorem aput_nodup {m : List (κ × α)} {k : κ} {v : α} (h : (m.map (·.1)).Nodup) : ((aput m k v).map (·.1)).Nodup := by
  rw [aput_keys]
  split
  · exact h
  · rename_i hn
    rw [List.nodup_append]
    refine ⟨h, by simp, fun a ha b hb e => ?_⟩
    rw [List.mem_singleton.mp hb] at e
    exact hn (aget_isSome.mpr (e ▸ ha))
theorem aput_len (m : List (κ × α)) (k : κ) (v : α) : (aput m k v).length ≤ m.length + 1 := by
  unfold aput
  split
  · simp
  · simp
variable {e : κ → D} {f : α → D} (inj : ∀ a b, (e a).key = (e b).key → a = b)
include inj
theorem kix_typed (m : List (κ × α)) (k : κ) : kix (m.map fun p => e p.1) (e k) = m.findIdx? fun p => decide (p.1 = k) := by
  unfold kix
  rw [keys_map, List.map_map]
  induction m with
  | nil => rfl
  | cons p m ih =>
    rw [List.map_cons, List.findIdx?_cons, List.findIdx?_cons, ih]
    by_cases h : p.1 = k
    · simp [h]
    · have h' : ¬ (e p.1).key = (e k).key := fun z => h (inj _ _ z)
      simp [h, h']
theorem kix_some (m : List (κ × α)) (k : κ) : (kix (m.map fun p => e p.1) (e k)).isSome = (aget m k).isSome := by
  rw [kix_typed inj]
  unfold aget
  rw [find_ix (fun p : κ × α => p.1) k m, List.findIdx?_map]
  simp only [Function.comp_def]
  cases h : m.findIdx? fun p => decide (p.1 = k) with
  | none => rfl
  | some i =>
    obtain ⟨h1, _⟩ := List.findIdx?_eq_some_iff_getElem.mp h
    simp [List.getElem?_eq_getElem h1]
theorem kget_typed (m : List (κ × α)) (k : κ) : kget (m.map fun p => e p.1) (m.map fun p => f p.2) (e k) = (aget m k).map f := by
  unfold kget
  rw [kix_typed inj]
  unfold aget
  rw [find_ix (fun p : κ × α => p.1) k m, List.findIdx?_map]
  simp only [Function.comp_def]
  cases h : m.findIdx? fun p => decide (p.1 = k) with
  | none => rfl
  | some i =>
    obtain ⟨h1, _⟩ := List.findIdx?_eq_some_iff_getElem.mp h
    simp [List.getElem?_eq_getElem h1]
theorem kputK_typed (m : List (κ × α)) (k : κ) (v : α) : kputK (m.map fun p => e p.1) (e k) = (aput m k v).map fun p => e p.1 := by
  have hs := kix_some inj m k
  have hk : (aput m k v).map (fun p => e p.1) = ((aput m k v).map (·.1)).map e := by rw [List.map_map]; rfl
  rw [hk, aput_keys]
  unfold kputK
  cases h : kix (m.map fun p => e p.1) (e k) with
  | none =>
    rw [h] at hs
    rw [if_neg (by rw [← hs]; simp), List.map_append, List.map_map]; rfl
  | some i =>
    rw [h] at hs
    rw [if_pos (show (aget m k).isSome = true from hs.symm), List.map_map]; rfl
theorem kputV_typed (m : List (κ × α)) (k : κ) (v : α) (nd : (m.map (·.1)).Nodup) : kputV (m.map fun p => e p.1) (m.map fun p => f p.2) (e k) (f v) = (aput m k v).map fun p => f p.2 := by
  have hs := kix_some inj m k
  unfold kputV aput
  cases h : kix (m.map fun p => e p.1) (e k) with
  | none =>
    rw [h] at hs
    rw [if_neg (by rw [← hs]; simp), List.map_append]; rfl
  | some i =>
    rw [h] at hs
    rw [if_pos (show (aget m k).isSome = true from hs.symm)]
    rw [kix_typed inj] at h
    obtain ⟨h1, h2, _⟩ := List.findIdx?_eq_some_iff_getElem.mp h
    have hi : (m.map (·.1)).findIdx? (fun z => decide (z = k)) = some i := by rw [List.findIdx?_map]; exact h
    rw [map_ix (fun p : κ × α => p.1) k (fun p => (p.1, v)) m i m[i] nd hi (List.getElem?_eq_getElem h1), List.map_set]
end
end DL

set_option Elab.async false
set_option linter.all false
set_option maxRecDepth 100000
set_option maxHeartbeats 4000000
namespace DL
open PySem PySem.Spec PyProof.Rows L2
/-! ### zip(list, tuple) -/
def ItM (K : PySem.W.Frag) (a b : Addr) : It :=
  ⟨fun i H => ∃ (us ws : List V) (u w : V), SqL K H a us ∧ SqT K H b ws ∧ us[i]? = some u ∧ ws[i]? = some w,
   fun i H v H' => ∃ T u w, v = .ref T ∧ H T = none ∧ H' = upd H T (.tup [u, w]) ∧ (∀ us, SqL K H a us → us[i]? = some u) ∧ ∀ ws, SqT K H b ws → ws[i]? = some w,
   fun i H => ∃ us ws : List V, SqL K H a us ∧ SqT K H b ws ∧ i ≤ us.length ∧ i ≤ ws.length ∧ (i = us.length ∨ i = ws.length)⟩
def TnM (a b z m o j1 j2 : Addr) (i : Nat) (h : Heap) : Prop := IsZip h z m o .none ∧ IsTupOf2 h m (.ref j1) (.ref j2) ∧ (∃ u w, IsTupOf2 h o u w) ∧ h.IsListIter j1 a i ∧ h.IsTupleIter j2 b i
theorem five {c z m o j1 j2 : Addr} (h : c ∈ [z, m, o, j1, j2]) : c = z ∨ c = m ∨ c = o ∨ c = j1 ∨ c = j2 := by simpa using h
theorem tnM_live {a b z m o j1 j2 : Addr} {i : Nat} {h : Heap} (t : TnM a b z m o j1 j2 i h) : ∀ c ∈ [z, m, o, j1, j2], ∃ ob, h.get? c = some ob ∧ ∀ v, ob.data ≠ .cell v := fun c hc => by
  obtain ⟨t1, t2, ⟨u, w, t3⟩, ⟨b1, f1, _, g1⟩, ⟨b2, f2, _, g2⟩⟩ := t
  rcases five hc with rfl | rfl | rfl | rfl | rfl
  · exact ⟨_, t1, fun _ => nofun⟩
  · exact ⟨_, t2, fun _ => nofun⟩
  · exact ⟨_, t3, fun _ => nofun⟩
  · exact ⟨b1, f1, fun v e => by rw [g1] at e; cases e⟩
  · exact ⟨b2, f2, fun v e => by rw [g2] at e; cases e⟩
theorem turnM {P : Program} {w : World} {K : PySem.W.Frag} {elts : List Expr} {kk : Nat} {tpos : Pos} {a b z m o j1 j2 : Addr} (S : ZipSep2 z m o j1 j2 [j1, a] [j2, b]) :
    Turn P w K (.Tuple elts kk tpos) (ItM K a b) [z, m, o, j1, j2] z (TnM a b z m o j1 j2) where
  mem := List.mem_cons_self
  obj := fun _ _ t => tnM_live t
  keep := fun i h h' t k => ⟨k z (by simp) _ t.1, k m (by simp) _ t.2.1, t.2.2.1.imp fun u h2 => h2.imp fun w h3 => k o (by simp) _ h3, t.2.2.2.1.at fun ob => k j1 (by simp) ob, t.2.2.2.2.at fun ob => k j2 (by simp) ob⟩
  item := fun X hP hw hK hc i pins s σ H E I hf t hg => by
    subst hP hw hK
    have live := tnM_live t
    obtain ⟨t1, t2, ⟨u0, w0, t3⟩, t4, t5⟩ := t
    obtain ⟨us, ws, u, w, qu, qw, eu, ew⟩ := hg
    obtain ⟨A1, r1, p1, _⟩ := I.list qu
    obtain ⟨A2, r2, p2, _⟩ := I.tuple qw
    obtain ⟨U, hU, rU⟩ := r1.get eu
    obtain ⟨W, hW, rW⟩ := r2.get ew
    have lt : ∀ c ∈ [z, m, o, j1, j2], c < s.heap.objs.size := fun c hm => by
      obtain ⟨ob, e, _⟩ := live c hm
      exact Heap.lt_size e
    have hA : X.A.in1.handled = none := by simp [I.ok.hd hc]
    have D1 := Draws.list (prog := X.prog) (w := X.w) (A := X.A.in1) hA j1 a (fun e => S.sep1_2 (by
      exact absurd e (by
        have : a < s.heap.objs.size := p1.lt
        intro e; subst e
        obtain ⟨ob, e1, e2, _⟩ := t4
        obtain ⟨oc, e3, e4, _⟩ := p1.isList
        rw [e1] at e3; cases e3; rw [e2] at e4; simp at e4))) A1.toArray
    have D2 := Draws.tuple (prog := X.prog) (w := X.w) (A := X.A.in1) hA j2 b (fun e => by
        subst e
        obtain ⟨ob, e1, e2, _⟩ := t5
        obtain ⟨oc, e3, e4, _⟩ := p2
        rw [e1] at e3; cases e3; rw [e2] at e4; simp at e4) A2.toArray
    have k1 : i < A1.toArray.size := by
      have := (List.getElem?_eq_some_iff.mp hU).1
      simpa using this
    have k2 : i < A2.toArray.size := by
      have := (List.getElem?_eq_some_iff.mp hW).1
      simpa using this
    refine wpAny_pyNext_zipD2_item S D1 D2 t1 t2 t3 ⟨t4, p1.isList⟩ ⟨t5, p2⟩ k1 k2 fun U' W' h' tk y1 y2 b1 b2 d1 d2 b5 b6 hk => ?_
    have eU : U' = U := by rw [show A1.toArray[i]? = some U by simpa using hU] at y1; exact (Option.some.inj y1).symm
    have eW : W' = W := by rw [show A2.toArray[i]? = some W by simpa using hW] at y2; exact (Option.some.inj y2).symm
    subst eU eW
    have zl : z < s.heap.objs.size := lt z (by simp)
    refine ⟨_, rfl, wpAny_letOwnedTupleGo_zip (s := { s with heap := h', toks := tk }) b1 fun g z2 sb => ?_⟩
    have T2 : g.get? s.heap.objs.size = some { cls := .type "tuple", data := .seq #[U', W'] } := (sb.2 _ (Nat.ne_of_gt zl)).trans b5
    have nw : ObjOk X.prog X.w (upd H s.heap.objs.size (.tup [u, w])) g s.heap.objs.size (.tup [u, w]) :=
      ⟨by show 2 ≤ sizeLine; decide, [U', W'], .cons rU (.cons rW .nil), ⟨_, T2, rfl, _, rfl⟩⟩
    have st : ∀ c ob, c ∉ [z, m, o, j1, j2] → s.heap.get? c = some ob → g.get? c = some ob := fun c ob hn e =>
      (sb.2 c fun q => hn (by simp [q])).trans (hk c ob (fun q => hn (by simp [q])) (fun q => hn (by simp [q])) (fun q => hn (by simp [q])) (fun q => hn (by simp [q])) e)
    have I1 : Inv X pins σ (upd H s.heap.objs.size (.tup [u, w])) { s with heap := g, toks := tk } := I.turnedNew (t' := tk) (ch := [z, m, o, j1, j2]) st hf (Nat.le_refl _) nw
    refine ⟨.ref s.heap.objs.size, _, I1, rfl, ⟨_, u, w, rfl, I.hok.fresh (Nat.le_refl _), rfl, fun l hl => I.list_inj hl qu ▸ eu, fun l hl => I.tuple_inj hl qw ▸ ew⟩, ⟨z2, ?_, ⟨U', W', ?_⟩, ?_, ?_⟩, fun c hm => ?_⟩
    · exact (sb.2 m S.TIz).trans (hk m _ S.TIz S.TITO S.TIi1 S.TIi2 t2)
    · exact (sb.2 o S.TOz).trans b2
    · exact d1.1.at fun ob e => (sb.2 j1 S.zi1.symm).trans e
    · exact d2.1.at fun ob e => (sb.2 j2 S.zi2.symm).trans e
    · rw [upd_ne (Nat.ne_of_lt (lt c hm))]
      exact (hf c hm).1
  done := fun X hP hw hK hc i pins s σ H E I hf t hg => by
    subst hP hw hK
    obtain ⟨t1, t2, ⟨u0, w0, t3⟩, t4, t5⟩ := t
    obtain ⟨us, ws, qu, qw, l1, l2, l3⟩ := hg
    obtain ⟨A1, r1, p1, _⟩ := I.list qu
    obtain ⟨A2, r2, p2, _⟩ := I.tuple qw
    have n1 := r1.length
    have n2 := r2.length
    have hA : X.A.in1.handled = none := by simp [I.ok.hd hc]
    have D1 := Draws.list (prog := X.prog) (w := X.w) (A := X.A.in1) hA j1 a (fun e => by
        subst e
        obtain ⟨ob, e1, e2, _⟩ := t4
        obtain ⟨oc, e3, e4, _⟩ := p1.isList
        rw [e1] at e3; cases e3; rw [e2] at e4; simp at e4) A1.toArray
    have D2 := Draws.tuple (prog := X.prog) (w := X.w) (A := X.A.in1) hA j2 b (fun e => by
        subst e
        obtain ⟨ob, e1, e2, _⟩ := t5
        obtain ⟨oc, e3, e4, _⟩ := p2
        rw [e1] at e3; cases e3; rw [e2] at e4; simp at e4) A2.toArray
    refine wpAny_pyNext_zipD2_end S D1 D2 t1 t2 t3 ⟨t4, p1.isList⟩ ⟨t5, p2⟩ (by simp; omega) (by simp; omega) (by simp; omega) fun h' tk hk => ⟨rfl, I.turnedL (t' := tk) (ch := [z, m, o, j1, j2]) (fun c ob hn e => ?_) hf⟩
    exact hk c ob (fun q => hn (by simp [q])) (fun q => hn (by simp [q])) (fun q => hn (by simp [q])) (fun q => hn (by simp [q])) e
  self := fun A i s Q E t h => wpAny_pyIter_zip t.1 h
theorem sepN (n a b : Nat) (la : a < n) (lb : b < n) : ZipSep2 (n + 4) (n + 2) (n + 3) n (n + 1) [n, a] [n + 1, b] where
  TIz := fun e => absurd (show n + 2 = n + 4 from e) (by omega)
  TOz := fun e => absurd (show n + 3 = n + 4 from e) (by omega)
  TITO := fun e => absurd (show n + 2 = n + 3 from e) (by omega)
  TIi1 := fun e => absurd (show n + 2 = n from e) (by omega)
  mem1 := List.mem_cons_self
  zf1 := fun h => (List.mem_cons.mp h).elim (fun e => absurd (show n + 4 = n from e) (by omega)) fun h => absurd (show n + 4 = a from List.mem_singleton.mp h) (by omega)
  Tf1 := fun h => (List.mem_cons.mp h).elim (fun e => absurd (show n + 3 = n from e) (by omega)) fun h => absurd (show n + 3 = a from List.mem_singleton.mp h) (by omega)
  TIi2 := fun e => absurd (show n + 2 = n + 1 from e) (by omega)
  mem2 := List.mem_cons_self
  zf2 := fun h => (List.mem_cons.mp h).elim (fun e => absurd (show n + 4 = n + 1 from e) (by omega)) fun h => absurd (show n + 4 = b from List.mem_singleton.mp h) (by omega)
  Tf2 := fun h => (List.mem_cons.mp h).elim (fun e => absurd (show n + 3 = n + 1 from e) (by omega)) fun h => absurd (show n + 3 = b from List.mem_singleton.mp h) (by omega)
  sep1_2 := fun h => (List.mem_cons.mp h).elim (fun e => absurd (show n = n + 1 from e) (by omega)) fun h => absurd (show n = b from List.mem_singleton.mp h) (by omega)
  sep2_1 := fun h => (List.mem_cons.mp h).elim (fun e => absurd (show n + 1 = n from e) (by omega)) fun h => absurd (show n + 1 = a from List.mem_singleton.mp h) (by omega)
theorem leN {n c : Nat} (h : c ∈ [n + 4, n + 2, n + 3, n, n + 1]) : n ≤ c := by
  simp at h
  omega
def iZipM (K : PySem.W.Frag) (ta : TA) : TI := fun σ H R => ta σ H fun vs H1 => ∃ a b us ws, vs = [V.ref a, V.ref b] ∧ SqL K H1 a us ∧ SqT K H1 b ws ∧ R (ItM K a b) H1
theorem pi_zipM {X : Cx} {e e2 : Expr} {ta : TA} {p pos tpos : Pos} {elts : List Expr} {kk : Nat} (hg : Gl X "zip") (hm : X.mg "zip" = none) (ha : PA X [e, e2] ta)
    (hs : starEach [e, e2] X.env = (false, eval e X.env) :: starEach [e2] X.env := by rfl) (hpl : (backTo pos (starEach [e2] X.env)).any (·.1) = false := by rfl) :
    PI X (.Tuple elts kk tpos) (.Call (.Name "zip" p) [e, e2] [] pos) (iZipM X.K ta) := ⟨fun pins s σ H R I h => by
  refine Call_ (ld_blt I hg hm PyProof.Rows.boot_zip (PyProof.Rows.callWith_type1 (thn (ha.run pos pins s σ H _ I h) fun us s1 ⟨vs, H1, I1, r1, a, b, xs, ys, ev, qa, qb, hR⟩ => ?_) hs hpl))
  subst ev
  obtain ⟨A1, rx, p1, _⟩ := I1.list qa
  obtain ⟨A2, ry, p2, _⟩ := I1.tuple qb
  have e2' : us = [.ref a, .ref b] := by
    cases r1 with
    | cons r rr => cases rr with
      | cons r' rr => cases rr; cases r; cases r'; rfl
  subst e2'
  refine zip_begins2 (begins_list a A1.toArray) (begins_tuple b A2.toArray) p1.isList p2 fun g hz hT hO g1 g2 gs hk => wpAny_pyIter_zip hz ?_
  have la : a < s1.heap.objs.size := p1.lt
  have lb : b < s1.heap.objs.size := by obtain ⟨oc, e3, _⟩ := p2; exact Heap.lt_size e3
  have S : ZipSep2 (s1.heap.objs.size + 4) (s1.heap.objs.size + 2) (s1.heap.objs.size + 3) s1.heap.objs.size (s1.heap.objs.size + 1) [s1.heap.objs.size, a] [s1.heap.objs.size + 1, b] := sepN _ _ _ la lb
  have I2 : Inv X pins σ H1 { s1 with heap := g } := I1.kept (t' := s1.toks) hk
  refine ⟨_, [s1.heap.objs.size + 4, s1.heap.objs.size + 2, s1.heap.objs.size + 3, s1.heap.objs.size, s1.heap.objs.size + 1], _, _, H1, rfl, I2, turnM S, ⟨hz, hT, ⟨_, _, hO⟩, ⟨_, g1, rfl, rfl⟩, ⟨_, g2, rfl, rfl⟩⟩, fun c hc => ?_, hR⟩
  have hle : s1.heap.objs.size ≤ c := leN hc
  exact I1.fpOk hle (I1.hok.fresh hle)⟩
/-! ### the loop over zip -/
def zipD (xs ys : List D) : List D := (xs.zip ys).map fun p => .tup [p.1, p.2]
theorem zipD_get {xs ys : List D} {i : Nat} {d : D} (h : (zipD xs ys)[i]? = some d) : ∃ x y, xs[i]? = some x ∧ ys[i]? = some y ∧ d = .tup [x, y] := by
  unfold zipD at h
  rw [List.getElem?_map] at h
  cases q : (xs.zip ys)[i]? with
  | none => rw [q] at h; cases h
  | some p =>
    rw [q] at h
    obtain ⟨h1, h2⟩ := List.getElem?_zip_eq_some.mp q
    exact ⟨p.1, p.2, h1, h2, (Option.some.inj h).symm⟩
theorem zipD_len (xs ys : List D) : (zipD xs ys).length = min xs.length ys.length := by unfold zipD; rw [List.length_map, List.length_zip]
def szip (ta tb : RE) (T : Tg) (t : RS) : RS := fun Z ρ => ta ρ fun d => tb ρ fun e => match d, e with
  | .lst xs, .tup ys => fordo T t Z (zipD xs ys) ρ
  | _, _ => False
section
variable {X : Cx} {e e2 : Expr} {ta tb : RE} {pos p pos' tpos : Pos} {t : RS} {T : Tg} {elts : List Expr} {kk : Nat} {body : List Stmt}
theorem s_forZ (hp : PassesOwn (model X.prog X.w) X.A X.env X.xe) (hc : X.calm = true) (hz : Gl X "zip") (hm : X.mg "zip" = none) (ha : ED X e ta) (hb : ED X e2 tb) (hg : GD X (.Tuple elts kk tpos) T) (hd : SsD X body t)
    (h1 : starEach [e, e2] X.env = (false, eval e X.env) :: starEach [e2] X.env := by rfl) (h2 : starEach [e2] X.env = (false, eval e2 X.env) :: starEach [] X.env := by rfl) (h3 : (backTo pos (starEach [e2] X.env)).any (·.1) = false := by rfl)
    (hs : ∀ x, foldedSetIterable (.Call (.Name "zip" p) [e, e2] [] pos) X.env x = pure x := by intro _; rfl) : SD X (.For (.Tuple elts kk tpos) (.Call (.Name "zip" p) [e, e2] [] pos) body [] pos') (szip ta tb T t) := fun F hF => by
  have hb' : PSs X body (fun D_ σ H => ∃ v d v2 d2, liftS ((F.hold v d).hold v2 d2) t D_ σ H) := ⟨fun pins s σ H D_ I ⟨v, d, v2, d2, q⟩ => (hd ((F.hold v d).hold v2 d2) hF).run pins s σ H D_ I q⟩
  refine (ps_for hp hc (pi_zipM hz hm (pa_cons (ha F hF) (pa_cons (hb F hF) pa_nil h2) h1) h1 h3) hg hb' hs).imp fun D_ σ H => ?_
  rintro ⟨E, ρ, Z, env, h, sv⟩
  refine ⟨E, ρ, _, env, h, fun d hd v H1 x1 hv => ?_⟩
  have e1 := env.step x1
  refine ⟨E, ρ, _, e1, hd, fun d2 hd2 v2 H2 x2 hv2 => ?_⟩
  have e2 := e1.step x2
  split at hd2
  · rename_i xs ys
    have hv1 := e1.dn x2 hv
    have ehold := (e2.hold hv1).hold hv2
    obtain ⟨a, us, rfl, l1, g1⟩ := id hv1
    obtain ⟨b, ws, rfl, l2, g2⟩ := id hv2
    refine ⟨a, b, us, ws, rfl, l1.sq, by rw [← hF]; exact l2.sq, ?_⟩
    refine ⟨fun i m σ H => m = (zipD xs ys).length - i ∧ i ≤ (zipD xs ys).length ∧ ∃ E ρ, DEnv ((F.hold (.ref a) (.lst xs)).hold (.ref b) (.tup ys)) E σ H ρ ∧ fordo T t Z ((zipD xs ys).drop i) ρ, ⟨_, rfl, Nat.zero_le _, E, ρ, ehold, hd2⟩, ?_⟩
    rintro i m σ H ⟨rfl, hi, E, ρ, env, hr⟩
    obtain ⟨b', ws, e', l2, g2⟩ := env.heldAt
    cases e'
    obtain ⟨a', us, e', l1, g1⟩ := env.drop.heldAt
    cases e'
    have sq1 : SqL X.K H a us := l1.sq
    have sq2 : SqT X.K H b ws := by rw [← hF]; exact l2.sq
    by_cases hlt : i < (zipD xs ys).length
    · have hget : (zipD xs ys)[i]? = some (zipD xs ys)[i] := List.getElem?_eq_getElem hlt
      rw [List.drop_eq_getElem_cons hlt] at hr
      obtain ⟨x, y, hx, hy, exy⟩ := zipD_get hget
      obtain ⟨u, hu, du⟩ := g1.get hx
      obtain ⟨w, hw, dw⟩ := g2.get hy
      unfold fordo at hr
      split at hr
      · rename_i ρ' hput
        refine .inr ⟨⟨us, ws, u, w, sq1, sq2, hu, hw⟩, fun σ' H' => ∃ E ρ, DEnv ((F.hold (.ref a) (.lst xs)).hold (.ref b) (.tup ys)) E σ' H' ρ ∧ fordo T t Z ((zipD xs ys).drop (i + 1)) ρ, fun σ' H' q => ⟨_, Nat.sub_lt_sub_left hlt (Nat.lt_succ_self i), rfl, hlt, q⟩, fun z H' hz => ?_⟩
        obtain ⟨T', u', w', rfl, hT, rfl, k1, k2⟩ := hz
        have q1 := k1 us sq1
        rw [hu] at q1; cases q1
        have q2 := k2 ws sq2
        rw [hw] at q2; cases q2
        have sm : Same H (upd H T' (.tup [u, w])) := fun c o q => by rw [upd_ne (ne_of_none q hT)]; exact q
        have dx : Dn F.K E (upd H T' (.tup [u, w])) (zipD xs ys)[i] (.ref T') := by
          rw [exy]
          exact env.at_.tup hT ⟨_, _, rfl, du, _, _, rfl, dw, rfl⟩
        have e3 := env.step (XExt.same env.so sm)
        rw [← hF]
        refine Tg.sem (F := (F.hold (.ref a) (.lst xs)).hold (.ref b) (.tup ys)) T e3 dx hput fun σ2 e4 _ => ?_
        refine ⟨.ref a, .lst xs, .ref b, .tup ys, E, ρ', _, e4, hr, ⟨fun ρ2 h2 E2 σ2 H2 env2 => ⟨E2, ρ2, env2, h2⟩, fun d hd' v H2 x2 dv => sv.rt d hd' v H2 x2 dv, fun ρ2 h2 E2 σ2 H2 env2 => sv.nx ρ2 h2 E2 σ2 H2 env2.drop.drop, fun ρ2 h2 E2 σ2 H2 env2 => ⟨E2, ρ2, env2, h2⟩⟩⟩
      · exact hr.elim
    · have hil : i = (zipD xs ys).length := by omega
      rw [hil, List.drop_length] at hr
      refine .inl ⟨⟨us, ws, sq1, sq2, ?_⟩, sv.nx _ hr E σ H env.drop.drop⟩
      have := zipD_len xs ys
      have := g1.len
      have := g2.len
      omega
  · exact hd2.elim
end
end DL

set_option Elab.async false
set_option linter.all false
set_option maxRecDepth 100000
set_option maxHeartbeats 4000000
namespace DL
open PySem PySem.Spec PyProof.Rows L2
/-! ### set(list of ints) -/
abbrev newS (w : World) : Obj := { cls := .type "set", dict := none, data := .set #[] 0 (.fresh 0 0 (!w.params.followText "set-order")) }
section
variable {P : Program} {w : World} {A : Around} {E : Value → Shared → Prop} {s : Shared}
theorem set_of_list {l : Addr} {its : Array Value} (ns : List Int) {Q : Value → Shared → Prop} (hh : A.handled = none) (hl : s.heap.IsList l its) (hit : IntsAre its.toList ns) (hb : ns.length + 1 < scanBound)
    (h : ∀ (g : Heap) (tk c : Nat), SetR w g s.heap.objs.size (fun j => decide (j ∈ ns)) c → c ≤ ns.length → (∀ b o, s.heap.get? b = some o → g.get? b = some o) → Q (.ref s.heap.objs.size) { s with heap := g, toks := tk }) :
    wpAny (model P w) A (call (.type "set") [.ref l]) Q E s := by
  have sz : its.size = ns.length := (Array.length_toList).symm.trans (IntsAre.length hit)
  obtain ⟨c, tl, hmro⟩ := F.called_set.mro
  have hmade := F.called_set.made
  have hsub := F.called_set.sub
  refine wpAny_call (codeAny_of_tree ?_)
  show wpAny _ _ (callAny (.type "set") _) _ _ _
  refine wpAny_pure ⟨Code.quiet_builtin _ (by decide +kernel), codeAny_builtin F.entry_type_call ?_⟩
  rw [Around.under_plain (weight_type_call_type "set" [.ref l] []) rfl]
  have h1 := F.called_set.notType
  have h2 := F.called_set.canCreate
  have hct := F.typeCall_set_1 (.ref l)
  repeat (any_goals (first | assumption | wp_step))

  refine codeAny_mono (code_set_led1 (.ref l) (E := E) (Q₁ := fun obj s₁ => obj = .ref s.heap.objs.size ∧ s₁ = { s with heap := s.heap.push (newS w) }) ⟨rfl, rfl⟩) fun r s₁ hr => ?_
  cases r with
  | error e => exact hr
  | ok fl =>
    cases fl with
    | ret obj =>
      obtain ⟨rfl, rfl⟩ := hr
      have gS : (s.heap.push (newS w)).get? s.heap.objs.size = some (newS w) := Heap.get?_push_size _ rfl
      have hT : Shared.TypeIs { s with heap := s.heap.push (newS w) } (.ref s.heap.objs.size) "set" := ⟨_, gS, rfl⟩
      have hli := F.called_set.init.lookup
      have hbi := F.called_set.init.bind (.ref s.heap.objs.size)
      repeat (any_goals (first | assumption | wp_step))

      refine codeAny_mono (codeAny_call_builtin (R := wants (fun r t => r = .none ∧ ∃ g tk c, t = { s with heap := g, toks := tk } ∧ SetR w g s.heap.objs.size (fun j => decide (j ∈ ns)) c ∧ c ≤ ns.length ∧
          (∀ b o, s.heap.get? b = some o → g.get? b = some o)) E) F.called_set.init.plain F.entry_set_init (check_set_init_1 hT ?_)) fun r₂ s₂ hr₂ => ?_
      · obtain ⟨⟨oc, od, ox, os⟩, gl, e1, nl, e2⟩ := hl
        simp only at e1 e2
        subst e1; subst e2
        have gl' : (s.heap.push (newS w)).get? l = some { cls := .type "list", dict := od, data := .seq its nl, slots := os } := Heap.get?_push_of_some _ gl
        have hsls := F.sub_list_set
        have hslf := F.sub_list_frozenset
        have hne : (Value.type "list" == Value.type "dict") = false := by decide
        have l1 : (s.heap.push (newS w)).IsList l its := ⟨_, gl', rfl, nl, rfl⟩
        unfold Builtin.«set.__init__» noKeywords Builtin.Frozenset.updateFrom
        generalize hPI : pyIter = PI
        wp_walk
        subst hPI

        refine wpAny_pyIter_list l1 ?_
        refine wpAny_bind (wpAny_runValue ?_)
        have ll : l < s.heap.objs.size := Heap.lt_size gl
        have h3 : A.in1.in1.in1.handled = none := by simp [hh]
        have ne1 : l ≠ (s.heap.push (newS w)).objs.size := by
          rw [Heap.size_push]; exact Nat.ne_of_lt (Nat.lt_succ_of_lt ll)
        have ni : s.heap.objs.size ∉ [(s.heap.push (newS w)).objs.size, l] := by
          rw [Heap.size_push]
          intro hm
          rcases List.mem_cons.mp hm with q | q
          · exact absurd q (Nat.ne_of_lt (Nat.lt_succ_self _))
          · exact absurd (List.mem_singleton.mp q) (Nat.ne_of_gt ll)
        have vl : ∀ (i : Nat) (v : Value), its[i]? = some v → ∃ k t, ns[i]? = some k ∧ v = .int k t := fun i v hv => by
          have hi : i < ns.length := sz ▸ (Array.getElem?_eq_some_iff.mp hv).1
          obtain ⟨t, e⟩ := IntsAre.int_at hit i v (by rw [Array.getElem?_toList]; exact hv)
          refine ⟨ns[i], t, List.getElem?_eq_getElem hi, ?_⟩
          rw [e, List.getD_eq_getElem?_getD, List.getElem?_eq_getElem hi]; rfl
        refine set_update_ints ((Walks.list h3 _ l ne1 its).toS) s.heap.objs.size ni ns sz hb vl (its.size - 0) 0 _ (by omega) (Nat.zero_le _) ⟨⟨_, Heap.get?_push_size _ rfl, rfl, rfl⟩, (l1.push _)⟩ ⟨0, Nat.le_refl 0, setR_new_at (Heap.get?_push_of_some _ gS)⟩ ?_
        rintro ⟨g, g2, d', tk', os'⟩ c' hm hc' hS'
        have eg : g2 = s.gens := hm.gens
        have ed : d' = s.drawn := hm.drawn
        have eo : os' = s.os := hm.os
        subst eg; subst ed; subst eo
        show wpAny _ _ _ _ _ _
        refine wpAny_pure ?_
        show wpAny _ _ (ret Value.none) _ _ _
        refine wpAny_pure ⟨rfl, g, tk', c', rfl, hS', sz ▸ hc', fun b o e => ?_⟩
        have b0 : b < s.heap.objs.size := Heap.lt_size e
        refine hm.heap b o (fun hm => ?_) (Heap.get?_push_of_some _ (Heap.get?_push_of_some _ e))
        rcases List.mem_cons.mp hm with q | q
        · exact absurd q (Nat.ne_of_lt b0)
        · exact absurd (List.mem_singleton.mp q) (by rw [Heap.size_push]; exact Nat.ne_of_lt (Nat.lt_succ_of_lt b0))
      · cases r₂ with
        | error e => exact hr₂
        | ok fl₂ =>
          cases fl₂ with
          | ret r =>
            obtain ⟨rfl, g, tk, c', rfl, q1, q2, q3⟩ := hr₂
            repeat (any_goals (first | assumption | wp_step))
            exact h _ _ _ q1 q2 q3
          | _ => exact hr₂.elim
    | _ => exact hr.elim
end
section
variable {X : Cx} {e a b c o i f value : Expr} {ta tb tc td tk tx tv : RE} {pos p p2 p' pos' pos2 : Pos} {es : List Expr}
theorem cr_setLI (hc : X.calm = true) : CallR X (.type "set") (fun xs H Q => ∃ (a : Addr) (ns : List Int), xs = [V.ref a] ∧ SqL X.K H a (ns.map V.int) ∧ ns.length < 60 ∧ ∀ p c, H p = none → c ≤ ns.length → Q (.ref p) (upd H p (SetO X.w p (fun j => decide (j ∈ ns)) c))) := by
  intro pins s σ H xs us Q I r h
  obtain ⟨a, ns, rfl, sq, hl, q⟩ := h
  obtain ⟨u, rfl, rx⟩ := r.one
  cases rx
  obtain ⟨its, rv, ht, hz⟩ := I.list sq
  refine set_of_list ns (I.ok.hd hc) ht.isList (by simpa using rv.ints) (by unfold scanBound; omega) fun h' tk c hS hcl hk => ?_
  exact ⟨.ref s.heap.objs.size, _, I.laid (t' := tk) hk (Nat.le_refl _) (setO_new hS), rfl, q _ c (I.hok.fresh (Nat.le_refl _)) hcl⟩
/-- sorted(set(l)), l a list of ints -/
def dssetL (ta : RE) : RE := fun ρ q => ta ρ fun d => match d with
  | .lst ds => (match intsD ds with
    | some ns => ns.length < 60 ∧ ∀ ms : List Int, ms.Pairwise (· < ·) → (∀ k, k ∈ ms ↔ k ∈ ns) → q (.lst (ms.map D.int))
    | none => False)
  | _ => False
theorem e_ssetL (hc : X.calm = true) (hg : Gl X "sorted") (hm : X.mg "sorted" = none) (hg2 : Gl X "set") (hm2 : X.mg "set" = none) (ha : ED X a ta)
    (h1 : starEach [a] X.env = (false, eval a X.env) :: starEach [] X.env := by rfl) (h2 : starEach [.Call (.Name "set" p2) [a] [] pos2] X.env = (false, eval (.Call (.Name "set" p2) [a] [] pos2) X.env) :: starEach [] X.env := by rfl)
    (hp1 : (backTo pos (starEach [] X.env)).any (·.1) = false := by rfl) (hp2 : (backTo pos2 (starEach [] X.env)).any (·.1) = false := by rfl) :
    ED X (.Call (.Name "sorted" p) [.Call (.Name "set" p2) [a] [] pos2] [] pos) (dssetL ta) := fun F hF => by
  refine (pe_callB (cr_sortedSet hc) hg hm PyProof.Rows.boot_sorted (pa_cons (pe_callTy (cr_setLI hc) hg2 hm2 PyProof.Rows.boot_set (pa_cons (ha F hF) pa_nil h1) (by decide) (by decide) h1 hp2) pa_nil h2) (by decide) (by decide) h2 hp1).imp fun σ H Q => ?_
  rintro ⟨E, ρ, q, env, h, k⟩
  refine ⟨E, ρ, _, env, h, fun d hd v H1 x1 hv => ?_⟩
  have e1 := env.step x1
  cases d with
  | lst ds =>
    obtain ⟨a', xs, rfl, t, g⟩ := hv
    have hd' : (match intsD ds with | some ns => ns.length < 60 ∧ ∀ ms : List Int, ms.Pairwise (· < ·) → (∀ k, k ∈ ms ↔ k ∈ ns) → q (.lst (ms.map D.int)) | none => False) := hd
    cases qi : intsD ds with
    | none => rw [qi] at hd'; exact hd'.elim
    | some ns =>
      rw [qi] at hd'
      have ex := intsD_of g qi
      subst ex
      refine ⟨a', ns, rfl, t.sq, hd'.1, fun p c hp hcl => ?_⟩
      have x2 : XExt F H1 (upd H1 p (SetO X.w p (fun j => decide (j ∈ ns)) c)) := XExt.new e1.so hp
      refine ⟨p, _, c, rfl, upd_same, by omega, fun ms p3 hms hmem hlen hp3 => ?_⟩
      have e2 := e1.step x2
      exact k _ (hd'.2 ms hms (fun k => by simpa using hmem k)) _ _ (x1.trans (x2.trans (XExt.new e2.so hp3))) (e2.at_.lst hp3 (ints_dna ms))
  | _ => exact (show False from hd).elim
/-- len of a set of ints -/
theorem cr_lenSet : CallR X (.builtin "len") (fun xs H Q => ∃ (a : Addr) (S : Int → Bool) (n : Nat), xs = [V.ref a] ∧ H a = some (SetO X.w a S n) ∧ ∀ ms : List Int, ms.Nodup → (∀ k, k ∈ ms ↔ S k = true) → Q (.int (ms.length : Nat)) H) := by
  intro pins s σ H xs us Q I r h
  obtain ⟨a, S, n, rfl, ha, q⟩ := h
  obtain ⟨u, rfl, rx⟩ := r.one
  cases rx
  obtain ⟨o, es, ep, t, ho, hx, hd, g, nd, hm, hb, hf, hn, _⟩ := setO_get I ha
  have hb' : es.size < 2 ^ 63 := Nat.lt_of_lt_of_le hb (by unfold scanBound; decide)
  refine call_len_set ho hx hd hf (by omega) ⟨.int es.size, H, I.tok _, ⟨_, rfl⟩, ?_⟩
  have := q (es.toList.map keyOf) nd (fun k => (hm k).symm)
  rw [List.length_map, Array.length_toList] at this
  exact this
/-- len(set(l)), l a list of ints -/
def dlset (ta : RE) : RE := fun ρ q => ta ρ fun d => match d with
  | .lst ds => (match intsD ds with
    | some ns => ns.length < 60 ∧ ∀ ms : List Int, ms.Nodup → (∀ k, k ∈ ms ↔ k ∈ ns) → q (.int (ms.length : Nat))
    | none => False)
  | _ => False
theorem e_lset (hc : X.calm = true) (hg : Gl X "len") (hm : X.mg "len" = none) (hg2 : Gl X "set") (hm2 : X.mg "set" = none) (ha : ED X a ta)
    (h1 : starEach [a] X.env = (false, eval a X.env) :: starEach [] X.env := by rfl) (h2 : starEach [.Call (.Name "set" p2) [a] [] pos2] X.env = (false, eval (.Call (.Name "set" p2) [a] [] pos2) X.env) :: starEach [] X.env := by rfl)
    (hp1 : (backTo pos (starEach [] X.env)).any (·.1) = false := by rfl) (hp2 : (backTo pos2 (starEach [] X.env)).any (·.1) = false := by rfl) :
    ED X (.Call (.Name "len" p) [.Call (.Name "set" p2) [a] [] pos2] [] pos) (dlset ta) := fun F hF => by
  refine (pe_callB cr_lenSet hg hm PySem.boot_len (pa_cons (pe_callTy (cr_setLI hc) hg2 hm2 PyProof.Rows.boot_set (pa_cons (ha F hF) pa_nil h1) (by decide) (by decide) h1 hp2) pa_nil h2) (by decide) (by decide) h2 hp1).imp fun σ H Q => ?_
  rintro ⟨E, ρ, q, env, h, k⟩
  refine ⟨E, ρ, _, env, h, fun d hd v H1 x1 hv => ?_⟩
  have e1 := env.step x1
  cases d with
  | lst ds =>
    obtain ⟨a', xs, rfl, t, g⟩ := hv
    have hd' : (match intsD ds with | some ns => ns.length < 60 ∧ ∀ ms : List Int, ms.Nodup → (∀ k, k ∈ ms ↔ k ∈ ns) → q (.int (ms.length : Nat)) | none => False) := hd
    cases qi : intsD ds with
    | none => rw [qi] at hd'; exact hd'.elim
    | some ns =>
      rw [qi] at hd'
      have ex := intsD_of g qi
      subst ex
      refine ⟨a', ns, rfl, t.sq, hd'.1, fun p c hp hcl => ?_⟩
      have x2 : XExt F H1 (upd H1 p (SetO X.w p (fun j => decide (j ∈ ns)) c)) := XExt.new e1.so hp
      refine ⟨p, _, c, rfl, upd_same, fun ms hms hmem => ?_⟩
      exact k _ (hd'.2 ms hms (fun k => by simpa using hmem k)) _ _ (x1.trans x2) rfl
  | _ => exact (show False from hd).elim
end
end DL

set_option Elab.async false
set_option linter.all false
set_option maxRecDepth 100000
set_option maxHeartbeats 4000000
namespace DL
open PySem L2
section
variable {X : Cx} {e a b : Expr} {ta tb : RE} {pos p1 p2 p3 : Pos}
/-! ### x == (), x of any depth -/
def rEqE : R2D := fun x y q => match y with
  | .tup [] => (∃ n, x.fitN n = true) ∧ q (.bl (x.eqv (.tup [])))
  | _ => False
theorem Top.dpN {F : Fx} {E : Addr → Prop} {H : Hp} {n : Nat} {d : D} {v : V} (hf : d.fitN n = true) (h : Top F E H d v) : Dp F.K H v d.py := by
  cases d with
  | lst ds =>
    obtain ⟨a, xs, rfl, l, q⟩ := h
    cases n with
    | zero => exact absurd (show false = true from hf) Bool.false_ne_true
    | succ n => exact .lst l.sq (dpAll_of dp_of n ds xs hf q)
  | non => exact dp_of (E := E) n _ v hf h
  | bl b => exact dp_of (E := E) n _ v hf h
  | int i => exact dp_of (E := E) n _ v hf h
  | str x => exact dp_of (E := E) n _ v hf h
  | tup xs => exact dp_of (E := E) n _ v hf h
  | obj c ns xs => exact absurd (show false = true by cases n <;> exact hf) Bool.false_ne_true
  | dct ks vs => exact absurd (show false = true by cases n <;> exact hf) Bool.false_ne_true
theorem op_eqE (hu : X.A.units + 64 < cLine) : OpR X (compareOp .Eq) (fun x y H Q => ∃ d e, Dp X.K H x d ∧ Dp X.K H y e ∧ d.canLay0 = true ∧ e.canLay0 = true ∧ e.depth ≤ 64 ∧ Q (.bl (PyData.eqv d e)) H) := by
  intro pins s σ H x y v u Q I rx ry h
  obtain ⟨d, e, hd, he, ld, le, lo, q⟩ := h
  obtain ⟨as, r1⟩ := Dp.reads I d x v hd rx
  obtain ⟨bs, r2⟩ := Dp.reads I e y u he ry
  exact SeqAt.compareEq_reads r1 r2 ld le (by omega) ⟨.bl _, H, I, rfl, q⟩
theorem o_eqE {k : Nat} (hr : Room k X.A) : OpD X (compareOp .Eq) rEqE := by
  refine ⟨_, op_eqE hr.units, fun F E H x y u v q Q hF at_ hx hy h k => ?_⟩
  unfold rEqE at h
  split at h
  · obtain ⟨⟨n, h1⟩, h3⟩ := h
    have h2 : (D.tup []).fitN 8 = true := rfl
    exact ⟨x.py, (D.tup []).py, hF ▸ hx.dpN h1, hF ▸ hy.dpN h2, (fitN_lay n x h1).1, (fitN_lay 8 _ h2).1, (by have := (fitN_lay 8 _ h2).2; omega), k _ h3 _ H (XExt.refl at_.so) rfl⟩
  · exact h.elim
/-! ### xs[::-1], xs a list -/
theorem DnA.rev {K : PySem.W.Frag} {E : Addr → Prop} {H : Hp} {ds : List D} {xs : List V} (h : DnA K E H ds xs) : DnA K E H ds.reverse xs.reverse := by
  induction ds generalizing xs with
  | nil => rw [show xs = [] from h]; rfl
  | cons d ds ih =>
    obtain ⟨x, r, rfl, h1, h2⟩ := h
    rw [List.reverse_cons, List.reverse_cons]
    have app : ∀ {as : List D} {us : List V}, DnA K E H as us → DnA K E H (as ++ [d]) (us ++ [x]) := by
      intro as
      induction as with
      | nil => intro us h; rw [show us = [] from h]; exact ⟨x, [], rfl, h1, rfl⟩
      | cons a as ih2 =>
        rintro us ⟨y, s, rfl, g1, g2⟩
        exact ⟨y, s ++ [x], rfl, g1, ih2 g2⟩
    exact app (ih h2)
def drev (ta : RE) : RE := fun ρ q => ta ρ fun d => match d with
  | .lst ds => q (.lst ds.reverse)
  | _ => False
theorem e_rev {k : Nat} (ha : BD X a ta) : ED X (.Subscript a (.Slice none none (some (.UnaryOp .USub (.Constant (.int 1) k p1) p2)) p3) pos) (drev ta) := fun F hF => by
  refine (pe_revL (ha F hF)).imp fun σ H Q => ?_
  rintro ⟨E, ρ, q, env, h, k⟩
  refine ⟨E, ρ, _, env, h, fun d hd v H1 x1 hv => ?_⟩
  have e1 := env.step x1
  cases d with
  | lst ds =>
    obtain ⟨a, xs, rfl, t, g⟩ := hv
    exact ⟨a, xs, rfl, t.sq, fun p hp => k _ hd _ _ (x1.trans (XExt.new e1.so hp)) (e1.at_.lst hp g.rev)⟩
  | _ => exact (show False from hd).elim
end
end DL

set_option Elab.async false
set_option linter.all false
set_option maxRecDepth 100000
set_option maxHeartbeats 4000000
namespace DL
open PySem L2
section
variable {X : Cx} {e a b c : Expr} {pos : Pos} {tr : RA}
/-- a, b, c = .. where some name is a cell -/
theorem s_parC {i j l : Nat} {x y z : Str} {px py pz pt : Pos} {kt k2 pt2} (hc : X.calm = true) (hN : X.N.Nodup) (hi : X.N[i]? = some x) (hj : X.N[j]? = some y) (hl : X.N[l]? = some z)
    (hx : Loc X.env.scope x) (hy : Loc X.env.scope y) (hz : Loc X.env.scope z) (ha : KD X [a, b, c] tr)
    (fx : X.fn x = true ∨ X.env.scope.names.lookup x = some .local := by first | exact .inl rfl | exact .inr rfl) (fy : X.fn y = true ∨ X.env.scope.names.lookup y = some .local := by first | exact .inl rfl | exact .inr rfl) (fz : X.fn z = true ∨ X.env.scope.names.lookup z = some .local := by first | exact .inl rfl | exact .inr rfl)
    (hw : swappedStores [.Tuple [.Name x px, .Name y py, .Name z pz] kt pt] (.Tuple [a, b, c] k2 pt2) X.env = pure none := by rfl)
    (hs : swapsWithSole [.Tuple [.Name x px, .Name y py, .Name z pz] kt pt] (.Tuple [a, b, c] k2 pt2) pos.line X.env = pure false := by rfl)
    (h1 : (assignEach [.Tuple [.Name x px, .Name y py, .Name z pz] kt pt] X.env).map (·.2) = [assign (.Tuple [.Name x px, .Name y py, .Name z pz] kt pt) X.env] := by rfl)
    (q1 : (assignEach [.Name x px, .Name y py, .Name z pz] X.env).map (·.2) = assign (.Name x px) X.env :: (assignEach [.Name y py, .Name z pz] X.env).map (·.2) := by rfl)
    (q2 : (assignEach [.Name y py, .Name z pz] X.env).map (·.2) = assign (.Name y py) X.env :: (assignEach [.Name z pz] X.env).map (·.2) := by rfl)
    (q3 : (assignEach [.Name z pz] X.env).map (·.2) = assign (.Name z pz) X.env :: (assignEach [] X.env).map (·.2) := by rfl)
    (q4 : (assignEach [.Name x px, .Name y py, .Name z pz] X.env).length = 3 := by rfl) (q5 : (assignEach [.Name x px, .Name y py, .Name z pz] X.env).findIdx? (·.1) = none := by rfl) :
    SD X (.Assign [.Tuple [.Name x px, .Name y py, .Name z pz] kt pt] (.Tuple [a, b, c] k2 pt2) pos) (spar3 i j l tr) := fun F hF =>
  (ps_asg (pe_tup (ha F hF)) (pg_tup hc (pgs_cons (pg_name hN hi hx fx) (pgs_cons (pg_name hN hj hy fy) (pgs_cons (pg_name hN hl hz fz) pgs_nil q3) q2) q1) q4 q5) hs hw h1).imp fun D_ σ H => by
  rintro ⟨E, ρ, Z, env, h, sv⟩
  refine ⟨E, ρ, _, env, h, fun ss hss vs H1 E1 g hvs => ?_⟩
  split at hss
  · rename_i s1 s2 s3
    match vs, hvs with
    | [v1, v2, v3], ⟨F1, n1, F2, n2, F3, n3, _⟩ =>
      obtain ⟨e1, o1⟩ := (env.grow g).put1 (i := i) env.ownIn n1
      obtain ⟨e2, o2⟩ := e1.put1 (i := j) o1 n2
      obtain ⟨e3, _⟩ := e2.put1 (i := l) o2 n3
      refine ⟨by show 3 ≤ sizeLine; decide, fun p hp => ?_⟩
      have e4 := e3.step (XExt.new (o := .tup [v1, v2, v3]) e3.so hp)
      exact ⟨p, [v1, v2, v3], rfl, .inl (.inl upd_same), rfl, v1, _, rfl, v2, _, rfl, v3, _, rfl, rfl, sv.nx _ hss _ _ _ e4⟩
    | [], hv => exact (show False from hv).elim
    | [_], ⟨_, _, hv⟩ => exact (show False from hv).elim
    | [_, _], ⟨_, _, _, _, hv⟩ => exact (show False from hv).elim
    | _ :: _ :: _ :: _ :: _, ⟨_, _, _, _, _, _, hv⟩ => exact (show False from hv).elim
  · exact hss.elim
end
end DL

set_option Elab.async false
set_option linter.all false
set_option maxRecDepth 100000
set_option maxHeartbeats 4000000
namespace DL
open PySem L2
section
variable {X : Cx} {e a b : Expr} {ta tb : RE} {pos p p2 pos2 : Pos}
/-! ### tuple(range(n)) -/
def dtrg (ta : RE) : RE := fun ρ q => ta ρ fun d => match d with
  | .int j => (0 ≤ j ∧ j ≤ 16777216) ∧ q (.tup (nums 0 j.toNat))
  | _ => False
theorem rg_dna {K : PySem.W.Frag} {E : Addr → Prop} {H : Hp} (n : Int) : DnA K E H (nums 0 n.toNat) (rgV 0 n) := by
  unfold nums rgV
  rw [Int.sub_zero]
  generalize List.range n.toNat = L
  induction L with
  | nil => rfl
  | cons i L ih => exact ⟨_, _, rfl, rfl, ih⟩
theorem e_trg (hc : X.calm = true) (hg : Gl X "tuple") (hm : X.mg "tuple" = none) (hg2 : Gl X "range") (hm2 : X.mg "range" = none) (ha : ED X a ta)
    (na : starEach [a] X.env = (false, eval a X.env) :: starEach [] X.env := by rfl) (nb : starEach [.Call (.Name "range" p2) [a] [] pos2] X.env = (false, eval (.Call (.Name "range" p2) [a] [] pos2) X.env) :: starEach [] X.env := by rfl) :
    ED X (.Call (.Name "tuple" p) [.Call (.Name "range" p2) [a] [] pos2] [] pos) (dtrg ta) := fun F hF => by
  refine (pe_tupRg hc hg hm (prg_1 hg2 hm2 (ha F hF) na) nb).imp fun σ H Q => ?_
  rintro ⟨E, ρ, q, env, h, k⟩
  refine ⟨E, ρ, _, env, h, fun d hd v H1 x1 hv => ?_⟩
  have e1 := env.step x1
  cases d with
  | int j =>
    have hd' : (0 ≤ j ∧ j ≤ 16777216) ∧ q (.tup (nums 0 j.toNat)) := hd
    exact ⟨j, hv, RgOk.of_le (by omega) hd'.1.2 (by omega) hd'.1.1, fun p hp => k _ hd'.2 _ _ (x1.trans (XExt.new e1.so hp)) (e1.at_.tup hp (rg_dna j))⟩
  | _ => exact (show False from hd).elim
end
end DL

set_option Elab.async false
set_option linter.all false
set_option maxRecDepth 100000
set_option maxHeartbeats 4000000
namespace DL
open PySem PySem.Spec PyProof.Rows L2
/-! ### sorted(set(list of tuples of ints)) -/
def encT (q : Addr × List Int) : PyData := .tuple (q.2.map PyData.int)
theorem reads_ints {h : Heap} : ∀ {us : List Value} {ns : List Int}, IntsAre us ns → ReadsAll h us (ns.map PyData.int) []
  | _, _, .nil => ReadsAll.nil
  | _, _, .cons n t r => ReadsAll.cons (as := []) (bs := []) (Reads.int n t) (reads_ints r)
theorem perm_lift {α β : Type} (f : α → β) {vs ys : List β} (h : vs.Perm ys) : ∀ {L : List α}, ys = L.map f → ∃ L1 : List α, L1.Perm L ∧ vs = L1.map f := by
  induction h with
  | nil =>
    intro L e
    cases L with
    | nil => exact ⟨[], .nil, rfl⟩
    | cons x L => cases e
  | cons x h ih =>
    intro L e
    cases L with
    | nil => cases e
    | cons y L =>
      rw [List.map_cons] at e
      injection e with e1 e2
      obtain ⟨L1, p, q⟩ := ih e2
      exact ⟨y :: L1, p.cons y, by rw [List.map_cons, e1, q]⟩
  | swap x y l =>
    intro L e
    cases L with
    | nil => cases e
    | cons a L =>
      cases L with
      | nil => cases e
      | cons b L =>
        rw [List.map_cons, List.map_cons] at e
        injection e with e1 e2
        injection e2 with e2 e3
        exact ⟨b :: a :: L, List.Perm.swap _ _ _, by rw [List.map_cons, List.map_cons, e1, e2, e3]⟩
  | trans h1 h2 ih1 ih2 =>
    intro L e
    obtain ⟨L2, p2, q2⟩ := ih2 e
    obtain ⟨L1, p1, q1⟩ := ih1 q2
    exact ⟨L1, p1.trans p2, q1⟩
theorem each_ref : ∀ (L : List (Addr × List Int)), PySem.W.EachIs (fun (v : Value) (q : Addr × List Int) => v = .ref q.1) (L.map fun q => Value.ref q.1) L
  | [] => .nil
  | q :: L => .cons rfl (each_ref L)
theorem each_ref_eq : ∀ {us : List Value} {L : List (Addr × List Int)}, PySem.W.EachIs (fun (v : Value) (q : Addr × List Int) => v = .ref q.1) us L → us = L.map fun q => Value.ref q.1
  | _, _, .nil => rfl
  | _, _, .cons h t => by rw [h, each_ref_eq t]; rfl
section
variable {P : Program} {w : World} {A : Around} {E : Value → Shared → Prop} {s : Shared}
theorem sorted_setD {a : Addr} {L : List (Addr × List Int)} {es : Array (Int × Value)} {ep : Nat} {t : SetTable} {Q : Value → Shared → Prop} (R : SetTR P w s.heap a L es ep t) (hh : A.handled = none) (hne : ∀ p ∈ L, p.2 ≠ []) (hu : A.units + 64 < cLine)
    (hQ : ∀ s' p (out : Array Value) (c : Nat) (L1 : List (Addr × List Int)), (∀ b o, s.heap.get? b = some o → s'.heap.get? b = some o) → s'.gens = s.gens → s'.os = s.os → s.heap.objs.size ≤ p →
      s'.heap.get? p = some (seqObj "list" out c) → L1.Perm L → out.toList = (L1.mergeSort (PySem.W.dataLe false encT)).map (fun q => Value.ref q.1) → Q (.ref p) s') :
    wpAny (model P w) A (call (.builtin "sorted") [.ref a]) Q E s := by
  obtain ⟨o, ho, hex, hd⟩ := R.ob
  have hsz := R.size
  have hfew := R.few
  refine Calls.call_function_entry kind_sorted plain_sorted entry_sorted (args_sorted1 _) ?_
  unfold Builtin.«sorted»
  refine wpAny_bind (m := checkCount "sorted" 1 1 _) (wpAny_pure ?_)
  refine wpAny_bind (collect_set (A := A.in1) hh ⟨o, ho, hex.1, hd⟩ R.fits (by unfold scanBound; omega) R.tab.ris R.led fun s1 vs k1 hz g1 o1 pm => ?_)
  have hes : es.toList.map (·.2) = L.map fun q => Value.ref q.1 := by
    rw [R.rows]
    unfold rowsOf
    rw [List.map_map]
    rfl
  obtain ⟨L1, p1, rfl⟩ := perm_lift (fun q : Addr × List Int => Value.ref q.1) pm hes
  have hl1 : L1.length < 64 := by rw [p1.length_eq]; exact hfew
  refine wpAny_bind (wpAny_newList ?_ (by rw [List.length_map, sizeLine_eq]; omega))
  have hoL : (s1.heap.push (seqObj "list" (L1.map fun q => Value.ref q.1).toArray 0)).get? s1.heap.objs.size = some (seqObj "list" (L1.map fun q => Value.ref q.1).toArray 0) := Heap.get?_push_size _ rfl
  have tk : ∀ q ∈ L1, ∃ as, Reads (s1.heap.push (seqObj "list" (L1.map fun q => Value.ref q.1).toArray 0)) (.ref q.1) (encT q) as ∧ s1.heap.objs.size ∉ as := fun q hq => by
    have hq' := p1.mem_iff.mp hq
    obtain ⟨b, items, e, ⟨ob, h1, h2, n, h3⟩, h4⟩ := tupInts_of (P := P) (w := w) (isT_keep (R.tup q hq') fun b u e => Heap.get?_push_of_some (seqObj "list" (L1.map fun q => Value.ref q.1).toArray 0) (k1 b u e))
    injection e with e
    subst e
    exact ⟨[], Reads.tuple h1 h2 h3 (reads_ints h4), by simp⟩
  have er : ∀ M : List (Addr × List Int), (∀ q ∈ M, q ∈ L1) → PySem.W.EachIs (fun (v : Value) (q : Addr × List Int) => ∃ as, Reads (s1.heap.push (seqObj "list" (L1.map fun q => Value.ref q.1).toArray 0)) v (encT q) as ∧ s1.heap.objs.size ∉ as) (M.map fun q => Value.ref q.1) M := fun M hM => by
    induction M with
    | nil => exact .nil
    | cons q M ih => exact .cons (tk q (hM q (List.mem_cons_self ..))) (ih fun r hr => hM r (List.mem_cons_of_mem _ hr))
  have dep : ∀ q : Addr × List Int, (encT q).depth ≤ 1 := fun q => by
    show PyData.depthAll (q.2.map PyData.int) + 1 ≤ 1
    have : ∀ ns : List Int, PyData.depthAll (ns.map PyData.int) = 0 := fun ns => by
      induction ns with
      | nil => rfl
      | cons n ns ih => show max (PyData.depth (.int n)) (PyData.depthAll (ns.map PyData.int)) = 0; rw [ih]; rfl
    rw [this]
    exact Nat.le_refl _
  have hal : PySem.W.AllAlike (L1.map encT) := fun d hd d' hd' => by
    obtain ⟨x, _, rfl⟩ := List.mem_map.mp hd
    obtain ⟨y, _, rfl⟩ := List.mem_map.mp hd'
    exact PySem.W.alike_ints _ _
  have hso : PySem.W.Sortable (L1.map encT) := .inl fun d hd => by
    obtain ⟨q, hq, rfl⟩ := List.mem_map.mp hd
    have := hne q (p1.mem_iff.mp hq)
    unfold encT
    cases e : q.2 with
    | nil => exact (this e).elim
    | cons x r => exact ⟨_, _, rfl⟩
  refine wpAny_bind (wpAny_holding (PySem.W.list_sort_data (s := { s1 with heap := s1.heap.push (seqObj "list" (L1.map fun q => Value.ref q.1).toArray 0) }) (enc := encT) hoL (each_ref L1) (er L1 fun q hq => hq) hal hso (by rw [sizeLine_eq]; omega) (fun q hq => ?_) fun out ol eo => ?_))
  · have := dep q
    show A.in1.units + 1 + (encT q).depth < cLine
    have : A.in1.units = A.units + 1 := rfl
    omega
  · obtain ⟨c, hc⟩ := sortedHeap_at (vs := L1.map fun q => Value.ref q.1) (out := out.toArray) hoL
    refine wpAny_pure ⟨_, rfl, hQ _ s1.heap.objs.size out.toArray c L1 (fun b u e => ?_) g1 o1 hz hc p1 (by simpa using each_ref_eq eo)⟩
    have q := k1 b u e
    have hlt := Heap.lt_size q
    show (sortedHeap (s1.heap.push (seqObj "list" (L1.map fun q => Value.ref q.1).toArray 0)) s1.heap.objs.size _ _).get? b = some u
    rw [sortedHeap_old (Nat.ne_of_lt hlt) (by rw [size_push']; exact Nat.lt_succ_of_lt hlt)]
    exact Heap.get?_push_of_some _ q
end
section
variable {X : Cx} {e a b : Expr} {ta tb : RE} {pos p p2 pos2 : Pos}
theorem cr_sortedD (hc : X.calm = true) (hu : X.A.units + 64 < cLine) : CallR X (.builtin "sorted") (fun vs H Q => ∃ (a : Addr) (L : List (Addr × List Int)), vs = [V.ref a] ∧ H a = some (SetTO X.prog X.w a L) ∧ (∀ p ∈ L, SqT X.K H p.1 (p.2.map V.int)) ∧ (∀ p ∈ L, p.2 ≠ []) ∧
    ∀ (L1 : List (Addr × List Int)) (p : Addr), L1.Perm L → (L1.map (·.2)).Nodup → H p = none → Q (.ref p) (upd H p (.lst ((L1.mergeSort (PySem.W.dataLe false encT)).map fun q => V.ref q.1)))) := by
  intro pins s σ H vs us Q I r h
  obtain ⟨a, L, rfl, ha, hk, hne, q⟩ := h
  have R0 : SetT0 X.prog X.w s.heap a L := (I.hok a _ ha).1
  obtain ⟨es, ep, t, R⟩ := R0.full fun p hp => I.isT (hk p hp)
  rw [Vals.ref1 r]
  refine sorted_setD R (I.ok.hd hc) hne hu fun s' p out c L1 k g o hp hg pm hout => ?_
  have hlen : ((L1.mergeSort (PySem.W.dataLe false encT)).map fun q => V.ref q.1).length ≤ sizeLine := by
    rw [List.length_map, List.length_mergeSort, pm.length_eq, sizeLine_eq]
    have := R.few
    omega
  have hn : H p = none := I.hok.fresh hp
  have hv : Vals ((L1.mergeSort (PySem.W.dataLe false encT)).map fun q => V.ref q.1) out.toList := by rw [hout]; exact vals_of_refs _
  have J : Inv X pins σ (upd H p (.lst ((L1.mergeSort (PySem.W.dataLe false encT)).map fun q => V.ref q.1))) { s with heap := s'.heap, gens := s'.gens, drawn := s'.drawn, toks := s'.toks } :=
    I.call (ch := []) (Un.laid k hp hn) (I.hok.laid k hp ⟨hlen, out.toList, c, hv, hg⟩) (by rw [g]; exact I.bare) (fun _ z => nomatch z)
  have e : s' = { s with heap := s'.heap, gens := s'.gens, drawn := s'.drawn, toks := s'.toks } := by
    cases s'
    cases s
    cases o
    rfl
  rw [e]
  exact ⟨.ref p, _, J, rfl, q L1 p pm ((pm.map (·.2)).nodup_iff.mpr R.nd) hn⟩
/-- the tuples of ints of a list -/
def tupsD : List D → Option (List (List Int))
  | [] => some []
  | .tup xs :: r => (intsD xs).bind fun ns => (tupsD r).map (ns :: ·)
  | _ => none
theorem intsD_eq : ∀ {xs : List D} {ns : List Int}, intsD xs = some ns → xs = ns.map D.int
  | [], ns, e => by cases e; rfl
  | d :: xs, ns, e => by
    cases d with
    | int i =>
      cases q : intsD xs with
      | none => rw [intsD, q] at e; cases e
      | some ms =>
        rw [intsD, q] at e
        cases e
        rw [intsD_eq q]; rfl
    | _ => cases e
theorem tupsD_of {K : PySem.W.Frag} {E : Addr → Prop} {H : Hp} : ∀ {ds : List D} {xs : List V} {nss : List (List Int)}, DnA K E H ds xs → tupsD ds = some nss →
    ∃ ks : List (Addr × List Int), xs = ks.map (fun p => V.ref p.1) ∧ ks.map (·.2) = nss ∧ ∀ p ∈ ks, Dn K E H (.tup (p.2.map D.int)) (.ref p.1)
  | [], _, nss, h, e => by
    cases e
    exact ⟨[], h, rfl, fun p hp => (by cases hp)⟩
  | d :: ds, _, nss, ⟨x, r, ex, h1, h2⟩, e => by
    subst ex
    cases d with
    | tup ys =>
      cases q1 : intsD ys with
      | none => rw [tupsD, q1] at e; cases e
      | some ns =>
        cases q2 : tupsD ds with
        | none => rw [tupsD, q1, q2] at e; cases e
        | some ms =>
          rw [tupsD, q1, q2] at e
          cases e
          obtain ⟨ks, e1, e2, e3⟩ := tupsD_of h2 q2
          have ey := intsD_eq q1
          subst ey
          obtain ⟨b, us, rfl, t, g⟩ := id h1
          refine ⟨(b, ns) :: ks, by rw [e1]; rfl, by rw [List.map_cons, e2], fun p hp => ?_⟩
          rcases List.mem_cons.mp hp with rfl | hp
          · exact h1
          · exact e3 p hp
    | _ => cases e
def leI (a b : List Int) : Bool := PySem.W.dataLe false (fun ns : List Int => PyData.tuple (ns.map PyData.int)) a b
theorem leI_map (L : List (Addr × List Int)) : (L.mergeSort (PySem.W.dataLe false encT)).map (·.2) = (L.map (·.2)).mergeSort leI :=
  PySem.W.sort_maps (r := PySem.W.dataLe false encT) (s := leI) (fun q : Addr × List Int => q.2) fun _ _ _ _ => rfl
theorem dna_refs {K : PySem.W.Frag} {E : Addr → Prop} {H : Hp} : ∀ (M : List (Addr × List Int)), (∀ p ∈ M, Dn K E H (.tup (p.2.map D.int)) (.ref p.1)) → DnA K E H ((M.map (·.2)).map fun ns => D.tup (ns.map D.int)) (M.map fun q => V.ref q.1)
  | [], _ => rfl
  | q :: M, h => ⟨_, _, rfl, h q (List.mem_cons_self ..), dna_refs M fun p hp => h p (List.mem_cons_of_mem _ hp)⟩
theorem ints_dnaV {K : PySem.W.Frag} {E : Addr → Prop} {H : Hp} : ∀ {ms : List Int} {xs : List V}, DnA K E H (ms.map D.int) xs → xs = ms.map V.int
  | [], xs, h => h
  | m :: ms, _, ⟨x, r, ex, h1, h2⟩ => by
    subst ex
    rw [ints_dnaV h2, show x = .int m from h1]; rfl
def dssetT (ta : RE) : RE := fun ρ q => ta ρ fun d => match d with
  | .lst ds => (match tupsD ds with
    | some nss => nss.length < 60 ∧ (∀ ns ∈ nss, ns ≠ []) ∧ ∀ ms : List (List Int), ms.Nodup → (∀ x, x ∈ ms ↔ x ∈ nss) → q (.lst ((ms.mergeSort leI).map fun ns => D.tup (ns.map D.int)))
    | none => False)
  | _ => False
theorem e_ssetT {k : Nat} (hr : Room k X.A) (hc : X.calm = true) (hg : Gl X "sorted") (hm : X.mg "sorted" = none) (hg2 : Gl X "set") (hm2 : X.mg "set" = none) (ha : ED X a ta)
    (h1 : starEach [a] X.env = (false, eval a X.env) :: starEach [] X.env := by rfl) (h2 : starEach [.Call (.Name "set" p2) [a] [] pos2] X.env = (false, eval (.Call (.Name "set" p2) [a] [] pos2) X.env) :: starEach [] X.env := by rfl)
    (hp1 : (backTo pos (starEach [] X.env)).any (·.1) = false := by rfl) (hp2 : (backTo pos2 (starEach [] X.env)).any (·.1) = false := by rfl) :
    ED X (.Call (.Name "sorted" p) [.Call (.Name "set" p2) [a] [] pos2] [] pos) (dssetT ta) := fun F hF => by
  refine (pe_callB (cr_sortedD hc hr.units) hg hm PyProof.Rows.boot_sorted (pa_cons (pe_callTy (cr_setOfT hc hr.units) hg2 hm2 PyProof.Rows.boot_set (pa_cons (ha F hF) pa_nil h1) (by decide) (by decide) h1 hp2) pa_nil h2) (by decide) (by decide) h2 hp1).imp fun σ H Q => ?_
  rintro ⟨E, ρ, q, env, h, k⟩
  refine ⟨E, ρ, _, env, h, fun d hd v H1 x1 hv => ?_⟩
  have e1 := env.step x1
  cases d with
  | lst ds =>
    obtain ⟨a', xs, rfl, t, g⟩ := hv
    have hd' : (match tupsD ds with | some nss => nss.length < 60 ∧ (∀ ns ∈ nss, ns ≠ []) ∧ ∀ ms : List (List Int), ms.Nodup → (∀ x, x ∈ ms ↔ x ∈ nss) → q (.lst ((ms.mergeSort leI).map fun ns => D.tup (ns.map D.int))) | none => False) := hd
    cases qi : tupsD ds with
    | none => rw [qi] at hd'; exact hd'.elim
    | some nss =>
      rw [qi] at hd'
      obtain ⟨hlen, hne, hfin⟩ := hd'
      obtain ⟨ks, ex, ek, hk⟩ := tupsD_of g qi
      subst ex
      have sqT : ∀ {H' : Hp}, (∀ p ∈ ks, Dn F.K E H' (.tup (p.2.map D.int)) (.ref p.1)) → ∀ p ∈ ks, SqT X.K H' p.1 (p.2.map V.int) := fun {H'} hk p hp => by
        obtain ⟨b, us, eb, tt, gg⟩ := hk p hp
        cases eb
        rw [← ints_dnaV gg, ← hF]
        exact tt.sq
      have hkl : ks.length = nss.length := by rw [← ek, List.length_map]
      refine ⟨a', ks, rfl, t.sq, sqT hk, by omega, fun c L hc' hsub hall => ?_⟩
      have x2 : XExt F H1 (upd H1 c (SetTO X.prog X.w c L)) := XExt.new e1.so hc'
      have e2 := e1.step x2
      have hk2 : ∀ p ∈ ks, Dn F.K E (upd H1 c (SetTO X.prog X.w c L)) (.tup (p.2.map D.int)) (.ref p.1) := fun p hp => e1.dn x2 (hk p hp)
      refine ⟨c, L, rfl, upd_same, fun p hp => sqT hk2 p (hsub p hp), fun p hp => hne _ (by rw [← ek]; exact List.mem_map.mpr ⟨p, hsub p hp, rfl⟩), fun L1 p3 pm nd hp3 => ?_⟩
      have hmem : ∀ x, x ∈ L1.map (·.2) ↔ x ∈ nss := fun x => by
        rw [← ek]
        constructor
        · intro hx
          obtain ⟨p, hp, rfl⟩ := List.mem_map.mp hx
          exact List.mem_map.mpr ⟨p, hsub p (pm.mem_iff.mp hp), rfl⟩
        · intro hx
          obtain ⟨p, hp, rfl⟩ := List.mem_map.mp hx
          exact (pm.map (·.2)).mem_iff.mpr (hall p hp)
      have hq := hfin (L1.map (·.2)) nd hmem
      rw [← leI_map] at hq
      refine k _ hq _ _ (x1.trans (x2.trans (XExt.new e2.so hp3))) (e2.at_.lst hp3 (dna_refs _ fun p hp => hk2 p (hsub p (pm.mem_iff.mp ?_))))
      exact (List.mergeSort_perm L1 _).mem_iff.mp hp
  | _ => exact (show False from hd).elim
end
end DL

set_option Elab.async false
set_option linter.all false
set_option maxRecDepth 100000
set_option maxHeartbeats 4000000
namespace DL
open PySem L2
section
variable {X : Cx} {e a b : Expr} {ta tb : RE} {pos p p2 pos2 : Pos}
/-! ### max(list of ints), t <= u of tuples of ints -/
def rMaxL : RCD := fun ds q => match ds with
  | [.lst xs] => (match intsD xs with
    | some ns => 0 < ns.length ∧ ∀ m, m ∈ ns → (∀ y, y ∈ ns → y ≤ m) → q (.int m)
    | none => False)
  | _ => False
theorem c_maxL (hc : X.calm = true) : CallD X (.builtin "max") rMaxL := by
  refine ⟨_, cr_max hc, fun F E H ds vs q Q hF at_ hv h k => ?_⟩
  unfold rMaxL at h
  split at h
  · rename_i xs
    obtain ⟨v, rfl, a, ys, rfl, t, g⟩ := hv.one
    cases qi : intsD xs with
    | none => rw [qi] at h; exact h.elim
    | some ns =>
      rw [qi] at h
      have ex := intsD_of g qi
      subst ex
      exact ⟨a, ns, rfl, t.sq, h.1, fun m h1 h2 => k _ (h.2 m h1 h2) _ H (XExt.refl at_.so) rfl⟩
  · exact h.elim
def lexB (ns ms : List Int) : Bool := Ob.lexAt (fun j => decide (ns.getD j 0 = ms.getD j 0)) (fun j => decide (ns.getD j 0 ≤ ms.getD j 0)) (decide (ns.length ≤ ms.length)) 0 (min ns.length ms.length)
def rLeT : R2D := fun x y q => match x, y with
  | .tup xs, .tup ys => (match intsD xs, intsD ys with
    | some ns, some ms => q (.bl (lexB ns ms))
    | _, _ => False)
  | _, _ => False
theorem o_leT {k : Nat} (hr : Room k X.A) : OpD X (compareOp .LtE) rLeT := by
  refine ⟨_, op_leT (by have := hr.un; omega), fun F E H x y u v q Q hF at_ hx hy h k => ?_⟩
  unfold rLeT at h
  split at h
  · rename_i xs ys
    obtain ⟨a, us, rfl, t1, g1⟩ := hx
    obtain ⟨b, ws, rfl, t2, g2⟩ := hy
    cases q1 : intsD xs with
    | none => rw [q1] at h; exact h.elim
    | some ns =>
      cases q2 : intsD ys with
      | none => rw [q1, q2] at h; exact h.elim
      | some ms =>
        rw [q1, q2] at h
        have ex := intsD_of g1 q1
        have ey := intsD_of g2 q2
        subst ex ey
        exact ⟨a, b, ns, ms, rfl, rfl, by rw [← hF]; exact t1.sq, by rw [← hF]; exact t2.sq, k _ h _ H (XExt.refl at_.so) rfl⟩
  · exact h.elim
end
end DL

set_option Elab.async false
set_option linter.all false
set_option maxRecDepth 100000
set_option maxHeartbeats 4000000
namespace DL
open PySem L2
/-! ### [e for x in w for y in w1] -/
def lc2do (T : Tg) (tt : RT) (w1 : RL) (vs1 : List Nat) (T1 : Tg) (tt1 : RT) (te : RE) (ρ : Rho) : List D → List D → (List D → Prop) → Prop
  | [], acc, q => q acc
  | d :: ds, acc, q => match T.put d ρ with
    | some ρ' => tt ρ' fun b => if b = true then w1 ρ' fun es => lcdo T1 tt1 te (wipeR ρ' vs1) es acc fun acc' => lc2do T tt w1 vs1 T1 tt1 te ρ ds acc' q else lc2do T tt w1 vs1 T1 tt1 te ρ ds acc q
    | none => False
def flc2 (w : RL) (vs : List Nat) (T : Tg) (tt : RT) (w1 : RL) (vs1 : List Nat) (T1 : Tg) (tt1 : RT) (te : RE) : RL := fun ρ q => w ρ fun ds => lc2do T tt w1 vs1 T1 tt1 te (wipeR ρ vs) ds [] q
theorem putAll_own : ∀ (is : List Nat) (ds : List D) (ρ ρ' : Rho), putAll is ds ρ = some ρ' → ∀ (j : Nat) s, ρ'[j]? = some (some s) → s.own = true → ρ[j]? = some (some s) ∧ j ∉ is
  | [], [], ρ, ρ', h, j, s, hs, os => by cases h; exact ⟨hs, by simp⟩
  | [], d :: ds, ρ, ρ', h, j, s, hs, os => by cases h
  | i :: is, [], ρ, ρ', h, j, s, hs, os => by cases h
  | i :: is, d :: ds, ρ, ρ', h, j, s, hs, os => by
    obtain ⟨h1, h2⟩ := putAll_own is ds _ ρ' h j s hs os
    by_cases e : i = j
    · subst e
      rw [List.getElem?_set] at h1
      split at h1
      · split at h1
        · injection h1 with h1
          injection h1 with h1
          subst h1
          cases os
        · cases h1
      · exact ⟨h1, by simp_all⟩
    · rw [List.getElem?_set_ne e] at h1
      exact ⟨h1, fun z => (List.mem_cons.mp z).elim (fun z => e z.symm) h2⟩
theorem Tg.put_own {T : Tg} {d : D} {ρ ρ' : Rho} (h : T.put d ρ = some ρ') (j : Nat) (s : Sl) (hs : ρ'[j]? = some (some s)) (os : s.own = true) : ρ[j]? = some (some s) ∧ j ∉ T.slots := by
  cases T with
  | one i => exact putAll_own [i] [d] ρ ρ' h j s hs os
  | many is =>
    cases d with
    | tup ds => exact putAll_own is ds ρ ρ' h j s hs os
    | _ => cases h
theorem OwnIn.put {E : Addr → Prop} {σ σ' : St} {ρ ρ' : Rho} {T : Tg} {d : D} (o : OwnIn E σ ρ) (h : T.put d ρ = some ρ') (sb : SameBut T.slots σ σ') : OwnIn E σ' ρ' := fun j s p hs os hv => by
  obtain ⟨h1, h2⟩ := Tg.put_own h j s hs os
  exact o j s p h1 os (by rw [← sb.2 j h2]; exact hv)
theorem OwnIn.wipe1 {E : Addr → Prop} {σ : St} {ρ : Rho} (o : OwnIn E σ ρ) (i : Nat) : OwnIn E (σ.set i none) (ρ.set i none) := fun j s p hs os hv => by
  by_cases e : i = j
  · subst e
    rw [List.getElem?_set] at hs
    split at hs
    · split at hs <;> cases hs
    · rename_i z; exact (z rfl).elim
  · rw [List.getElem?_set_ne e] at hs hv
    exact o j s p hs os hv
theorem OwnIn.wipe {E : Addr → Prop} {σ : St} {ρ : Rho} (o : OwnIn E σ ρ) : ∀ vs : List Nat, OwnIn E (L2.wipe σ vs) (wipeR ρ vs)
  | [] => o
  | v :: vs => (OwnIn.wipe o vs).wipe1 v
section
variable {X : Cx} {elt tg iter tg1 iter1 : Expr} {ifs ifs1 : List Expr} {w w1 : RL} {te : RE} {pos : Pos}
theorem lc2_ {F : Fx} {vs vs1 : List Nat} {T T1 : Tg} {tt tt1 : RT} (hT : ∀ i ∈ T.slots, i ∈ vs) (hT1 : ∀ i ∈ T1.slots, i ∈ vs1) (σ : St) (H : Hp) (Q : VK) (h : liftF F (flc2 w vs T tt w1 vs1 T1 tt1 te) σ H Q) :
    tLc2 (liftI F w) (T.g F.K) (fun σ H Q => ∃ v d, liftT (F.hold v d) tt σ H Q) (fun σ H R => ∃ v d, liftI (F.hold v d) w1 σ H R) (T1.g F.K) (fun σ H Q => ∃ v d v1 d1, liftT ((F.hold v d).hold v1 d1) tt1 σ H Q) (fun σ H Q => ∃ v d v1 d1, liftE ((F.hold v d).hold v1 d1) te σ H Q) vs vs1 σ H Q := by
  obtain ⟨E, ρ, q, env, h, k⟩ := h
  refine ⟨E, ρ, _, env, h, fun ds hds J H1 hv hd x1 hdn wk D hD => ?_⟩
  have W := wk (F.hold hv hd) rfl rfl
  have e1 := env.step x1
  have e1h := e1.hold hdn
  have xD : XExt (F.hold hv hd) H1 (upd H1 D (.lst [])) := XExt.new e1h.so hD
  have e2 : DEnv (F.hold hv hd) (plus E D) σ (upd H1 D (.lst [])) ρ := e1h.shut xD hD ⟨_, upd_same⟩
  have nED : ¬ E D := e1.nE hD
  have hD0 : H D = none := XExt.free env x1 hD
  have nBD : ¬ F.B D := fun hB => nED (e1.sub D hB)
  have h0D : F.H0 D = none := e1.h0 hD
  have nWD : ¬ F.W D := fun w => nED (e1.we w)
  have e1w : DEnv (F.hold hv hd) E (L2.wipe σ vs) H1 (wipeR ρ vs) := e1h.wipe vs
  have noSlot : ∀ (j : Nat) s, (wipeR ρ vs)[j]? = some (some s) → s.own = true → (L2.wipe σ vs)[j]? ≠ some (some (.ref D)) := fun j s hs os q => nED ((e1.wipe vs).ownIn j s D hs os q)
  refine ⟨fun i m H => m = ds.length - i ∧ i ≤ ds.length ∧ FExt F.W H1 H ∧ DEnv (F.hold hv hd) (plus E D) (L2.wipe σ vs) H (wipeR ρ vs) ∧ ∃ acc xs, H D = some (.lst xs) ∧ DnA F.K (plus E D) H acc xs ∧ lc2do T tt w1 vs1 T1 tt1 te (wipeR ρ vs) (ds.drop i) acc q,
    ⟨ds.length, rfl, Nat.zero_le _, xD.1, e2.wipe vs, [], [], upd_same, rfl, hds⟩, ?_⟩
  rintro i m H ⟨rfl, hi, fx, env, acc, xs, hDx, hacc, hr⟩
  obtain ⟨w1', w2⟩ := W (plus E D) H env.at_ env.heldAt
  by_cases hlt : i < ds.length
  · have hget : ds[i]? = some ds[i] := List.getElem?_eq_getElem hlt
    rw [List.drop_eq_getElem_cons hlt] at hr
    obtain ⟨hgo, hy⟩ := w1' i _ hget
    unfold lc2do at hr
    split at hr
    · rename_i ρ' hput
      refine .inr ⟨hgo, fun H' => FExt F.W H1 H' ∧ DEnv (F.hold hv hd) (plus E D) (L2.wipe σ vs) H' (wipeR ρ vs) ∧ ∃ acc xs, H' D = some (.lst xs) ∧ DnA F.K (plus E D) H' acc xs ∧ lc2do T tt w1 vs1 T1 tt1 te (wipeR ρ vs) (ds.drop (i + 1)) acc q,
        fun H' z => ⟨_, Nat.sub_lt_sub_left hlt (Nat.lt_succ_self i), rfl, hlt, z⟩, fun x H2 hx => ?_⟩
      obtain ⟨sm, dx⟩ := hy x H2 hx
      have x2 : XExt (F.hold hv hd) H H2 := XExt.same env.so sm
      have env2 := env.step x2
      refine Tg.sem (F := F.hold hv hd) T env2 dx hput fun σ2 e3 sb => ⟨wipe_same sb hT, ?_⟩
      refine ⟨hv, hd, plus E D, ρ', _, e3, hr, fun b hb H3 x3 => ?_⟩
      have e4 := e3.step x3
      have x23 : XExt (F.hold hv hd) H H3 := x2.trans x3
      have env3 := env.step x23
      cases b with
      | true =>
        rw [if_pos rfl] at hb
        show if true = true then _ else _
        rw [if_pos rfl]
        refine ⟨hv, hd, plus E D, ρ', _, e4, hb, fun es hes J1 H4 hv1 hd1 x4 hdn1 wk1 => ?_⟩
        have W1 := wk1 ((F.hold hv hd).hold hv1 hd1) rfl rfl
        have e5 : DEnv ((F.hold hv hd).hold hv1 hd1) (plus E D) σ2 H4 ρ' := (e4.step x4).hold hdn1
        have x24 : XExt (F.hold hv hd) H H4 := x23.trans x4
        have env4 := env.step x24
        have own2 : OwnIn E (L2.wipe σ2 vs1) (wipeR ρ' vs1) := (((e1.wipe vs).ownIn).put hput sb).wipe vs1
        have noSlot1 : ∀ (j : Nat) s, (wipeR ρ' vs1)[j]? = some (some s) → s.own = true → (L2.wipe σ2 vs1)[j]? ≠ some (some (.ref D)) := fun j s hs os q => nED (own2 j s D hs os q)
        refine ⟨fun j m H => m = es.length - j ∧ j ≤ es.length ∧ FExt F.W H1 H ∧ DEnv (F.hold hv hd) (plus E D) (L2.wipe σ vs) H (wipeR ρ vs) ∧ DEnv ((F.hold hv hd).hold hv1 hd1) (plus E D) (L2.wipe σ2 vs1) H (wipeR ρ' vs1) ∧ ∃ acc xs, H D = some (.lst xs) ∧ DnA F.K (plus E D) H acc xs ∧ lcdo T1 tt1 te (wipeR ρ' vs1) (es.drop j) acc fun acc' => lc2do T tt w1 vs1 T1 tt1 te (wipeR ρ vs) (ds.drop (i + 1)) acc' q,
          ⟨es.length, rfl, Nat.zero_le _, fx.trans x24.1, env4, e5.wipe vs1, acc, xs, x24.1 D _ hDx nWD, env.dna x24 hacc, hes⟩, ?_⟩
        clear hacc hDx
        rintro j m H ⟨rfl, hj, fx, envA, envB, acc, xs, hDx, hacc, hr1⟩
        obtain ⟨v1, v2⟩ := W1 (plus E D) H envB.at_ envB.heldAt
        by_cases hlt1 : j < es.length
        · have hget1 : es[j]? = some es[j] := List.getElem?_eq_getElem hlt1
          rw [List.drop_eq_getElem_cons hlt1] at hr1
          obtain ⟨hgo1, hy1⟩ := v1 j _ hget1
          unfold lcdo at hr1
          split at hr1
          · rename_i ρ2 hput1
            refine .inr ⟨hgo1, fun H' => FExt F.W H1 H' ∧ DEnv (F.hold hv hd) (plus E D) (L2.wipe σ vs) H' (wipeR ρ vs) ∧ DEnv ((F.hold hv hd).hold hv1 hd1) (plus E D) (L2.wipe σ2 vs1) H' (wipeR ρ' vs1) ∧ ∃ acc xs, H' D = some (.lst xs) ∧ DnA F.K (plus E D) H' acc xs ∧ lcdo T1 tt1 te (wipeR ρ' vs1) (es.drop (j + 1)) acc fun acc' => lc2do T tt w1 vs1 T1 tt1 te (wipeR ρ vs) (ds.drop (i + 1)) acc' q,
              fun H' z => ⟨_, Nat.sub_lt_sub_left hlt1 (Nat.lt_succ_self j), rfl, hlt1, z⟩, fun x H2 hx => ?_⟩
            obtain ⟨sm, dx⟩ := hy1 x H2 hx
            have x2 : XExt ((F.hold hv hd).hold hv1 hd1) H H2 := XExt.same envB.so sm
            have env2 := envB.step x2
            refine Tg.sem (F := (F.hold hv hd).hold hv1 hd1) T1 env2 dx hput1 fun σ3 e3 sb1 => ⟨wipe_same sb1 hT1, ?_⟩
            refine ⟨hv, hd, hv1, hd1, plus E D, ρ2, _, e3, hr1, fun b hb H3 x3 => ?_⟩
            have e4 := e3.step x3
            cases b with
            | true =>
              rw [if_pos rfl] at hb
              show if true = true then _ else _
              rw [if_pos rfl]
              refine ⟨hv, hd, hv1, hd1, plus E D, ρ2, _, e4, hb, fun y hy v H4 x4 hvy => ?_⟩
              have x24 : XExt ((F.hold hv hd).hold hv1 hd1) H H4 := x2.trans (x3.trans x4)
              have x24' : XExt (F.hold hv hd) H H4 := x24
              have hD4 : H4 D = some (.lst xs) := x24.1 D _ hDx nWD
              have hacc4 : DnA F.K (plus E D) H4 acc xs := envA.dna x24' hacc
              refine ⟨xs, hD4, by rw [hacc.len]; exact hy.1, ?_, ?_, ?_, acc ++ [y], xs ++ [v], upd_same, ?_, hy.2⟩
              · have f4 : FExt F.W H1 H4 := fx.trans x24.1
                exact fun b u qb w => by rw [upd_ne (ne_of_none qb hD)]; exact f4 b u qb w
              · exact (envA.step x24').poke (.inr rfl) nBD h0D noSlot
              · exact (envB.step x24).poke (.inr rfl) nBD h0D noSlot1
              · have fe : FExt (plus E D) H4 (upd H4 D (.lst (xs ++ [v]))) := fun b u q hb => by rw [upd_ne (fun z : b = D => hb (.inr z))]; exact q
                exact DnA.ext fe _ _ (hacc4.app (DnA.one hvy))
            | false =>
              rw [if_neg Bool.false_ne_true] at hb
              show if false = true then _ else _
              rw [if_neg Bool.false_ne_true]
              have x23 : XExt ((F.hold hv hd).hold hv1 hd1) H H3 := x2.trans x3
              have x23' : XExt (F.hold hv hd) H H3 := x23
              exact ⟨fx.trans x23.1, envA.step x23', envB.step x23, acc, xs, x23.1 D _ hDx nWD, envA.dna x23' hacc, hb⟩
          · exact hr1.elim
        · have hil : j = es.length := by omega
          rw [hil, List.drop_length] at hr1
          exact .inl ⟨v2 j (by omega), fx, envA, acc, xs, hDx, hacc, hr1⟩
      | false =>
        rw [if_neg Bool.false_ne_true] at hb
        show if false = true then _ else _
        rw [if_neg Bool.false_ne_true]
        exact ⟨fx.trans x23.1, env3, acc, xs, x23.1 D _ hDx nWD, env.dna x23 hacc, hb⟩
    · exact hr.elim
  · have hil : i = ds.length := by omega
    rw [hil, List.drop_length] at hr
    refine .inl ⟨w2 i (by omega), k acc hr D xs H ⟨x1.1.trans fx, env.so⟩ hD0 hDx hacc⟩
section
variable {scope : Scope} {own : List (Str × Nat)} {vs1 : List Nat} {T T1 : Tg} {tt tt1 : RT} (hc : X.calm = true) (hN : X.N.Nodup) (hi : ID X tg iter w) (ok : BlkOk X.N X.env.scope scope own) (hv : ∀ i ∈ vs1, i ∈ own.map (·.2)) (hT : ∀ i ∈ T.slots, i ∈ own.map (·.2)) (hT1 : ∀ i ∈ T1.slots, i ∈ vs1)
    (hg : ∀ (s : Shared) (H : Hp) (C : Addr) (cl : List (Str × Addr)) (fp : List Addr), GD (X.blk s H scope (compEnvC scope cl C X.env) fp) tg T) (ht : ∀ (s : Shared) (H : Hp) (C : Addr) (cl : List (Str × Addr)) (fp : List Addr), TsD (X.blk s H scope (compEnvC scope cl C X.env) fp) ifs tt)
    (hi1 : ∀ (s : Shared) (H : Hp) (C : Addr) (cl : List (Str × Addr)) (fp : List Addr), ID (X.blk s H scope (compEnvC scope cl C X.env) fp) tg1 iter1 w1)
    (hg1 : ∀ (s : Shared) (H : Hp) (C : Addr) (cl : List (Str × Addr)) (fp : List Addr), GD (X.blk s H scope (compEnvC scope cl C X.env) fp) tg1 T1) (ht1 : ∀ (s : Shared) (H : Hp) (C : Addr) (cl : List (Str × Addr)) (fp : List Addr), TsD (X.blk s H scope (compEnvC scope cl C X.env) fp) ifs1 tt1)
    (he : ∀ (s : Shared) (H : Hp) (C : Addr) (cl : List (Str × Addr)) (fp : List Addr), ED (X.blk s H scope (compEnvC scope cl C X.env) fp) elt te)
include hc hN hi ok hv hT hT1 hg ht hi1 hg1 ht1 he
theorem f_lc2 (hs : ∀ x, foldedSetIterable iter X.env x = pure x := by intro _; rfl) (hs1 : ∀ env x, foldedSetIterable iter1 env x = pure x := by intro _ _; rfl) :
    FD X (.ListComp elt [⟨tg, iter, ifs, 0⟩, ⟨tg1, iter1, ifs1, 0⟩] scope pos) (flc2 w (own.map (·.2)) T tt w1 vs1 T1 tt1 te) := fun F hF =>
  (pe_lc2 (g := T.g X.K) (g1 := T1.g X.K) (tt := fun σ H Q => ∃ v d, liftT (F.hold v d) tt σ H Q) (wi1 := fun σ H R => ∃ v d, liftI (F.hold v d) w1 σ H R) (tt1 := fun σ H Q => ∃ v d v1 d1, liftT ((F.hold v d).hold v1 d1) tt1 σ H Q) (te := fun σ H Q => ∃ v d v1 d1, liftE ((F.hold v d).hold v1 d1) te σ H Q) hc hN (hi F hF) ok hv (fun s H C cl fp => hg s H C cl fp)
    (fun s H C cl fp => ⟨fun pins s' σ H' Q I ⟨v, d, q⟩ => (ht s H C cl fp (F.hold v d) hF).run pins s' σ H' Q I q⟩)
    (fun s H C cl fp => ⟨fun pins s' σ H' Q I ⟨v, d, q⟩ => (hi1 s H C cl fp (F.hold v d) hF).run pins s' σ H' Q I q⟩) (fun s H C cl fp => hg1 s H C cl fp)
    (fun s H C cl fp => ⟨fun pins s' σ H' Q I ⟨v, d, v1, d1, q⟩ => (ht1 s H C cl fp ((F.hold v d).hold v1 d1) hF).run pins s' σ H' Q I q⟩)
    (fun s H C cl fp => ⟨fun pins s' σ H' Q I ⟨v, d, v1, d1, q⟩ => (he s H C cl fp ((F.hold v d).hold v1 d1) hF).run pins s' σ H' Q I q⟩) hs hs1).imp fun σ H Q h => by
  have := lc2_ hT hT1 σ H Q h
  rw [hF] at this
  exact this
theorem s_setLc2 {i : Nat} {y : Str} {py spos : Pos} (hy : X.N[i]? = some y) (hyl : X.env.scope.names.lookup y = some .local)
    (hsw : swapsWith (.ListComp elt [⟨tg, iter, ifs, 0⟩, ⟨tg1, iter1, ifs1, 0⟩] scope pos) (some (.Name y py)) spos.line X.env = pure true) (hs : ∀ x, foldedSetIterable iter X.env x = pure x := by intro _; rfl) (hs1 : ∀ env x, foldedSetIterable iter1 env x = pure x := by intro _ _; rfl) :
    SD X (.Assign [.Name y py] (.ListComp elt [⟨tg, iter, ifs, 0⟩, ⟨tg1, iter1, ifs1, 0⟩] scope pos) spos) (sset i (flst_ (flc2 w (own.map (·.2)) T tt w1 vs1 T1 tt1 te))) := fun F hF =>
  (ps_setLc2 (g := T.g X.K) (g1 := T1.g X.K) (tt := fun σ H Q => ∃ v d, liftT (F.hold v d) tt σ H Q) (wi1 := fun σ H R => ∃ v d, liftI (F.hold v d) w1 σ H R) (tt1 := fun σ H Q => ∃ v d v1 d1, liftT ((F.hold v d).hold v1 d1) tt1 σ H Q) (te := fun σ H Q => ∃ v d v1 d1, liftE ((F.hold v d).hold v1 d1) te σ H Q) hc hN hy hyl hsw (hi F hF) ok hv (fun s H C cl fp => hg s H C cl fp)
    (fun s H C cl fp => ⟨fun pins s' σ H' Q I ⟨v, d, q⟩ => (ht s H C cl fp (F.hold v d) hF).run pins s' σ H' Q I q⟩)
    (fun s H C cl fp => ⟨fun pins s' σ H' Q I ⟨v, d, q⟩ => (hi1 s H C cl fp (F.hold v d) hF).run pins s' σ H' Q I q⟩) (fun s H C cl fp => hg1 s H C cl fp)
    (fun s H C cl fp => ⟨fun pins s' σ H' Q I ⟨v, d, v1, d1, q⟩ => (ht1 s H C cl fp ((F.hold v d).hold v1 d1) hF).run pins s' σ H' Q I q⟩)
    (fun s H C cl fp => ⟨fun pins s' σ H' Q I ⟨v, d, v1, d1, q⟩ => (he s H C cl fp ((F.hold v d).hold v1 d1) hF).run pins s' σ H' Q I q⟩) hs hs1).imp fun D_ σ H => by
  rintro ⟨E, ρ, Z, env, h, sv⟩
  have := lc2_ (F := F) (Q := fun x H1 => gName i x σ H1 D_.nx) hT hT1 σ H ⟨E, ρ, _, env, h, fun ds hd p xs H1 x1 hp hp' ha => ?_⟩
  · rw [hF] at this
    exact this
  · exact sv.nx _ hd E _ H1 ((env.step x1).set ⟨p, xs, rfl, ⟨env.nE hp, hp'⟩, DnA.less (fun _ => .inl) _ _ ha⟩)
end
end
end DL

set_option Elab.async false
set_option linter.all false
set_option maxRecDepth 100000
set_option maxHeartbeats 4000000
namespace DL
open PySem L2
section
variable {X : Cx} {o i e value : Expr} {ta ti tv : RE} {pos pos' : Pos}
/-! ### x[i] = e of a list; x.count(e) -/
def ssti (j : Nat) (ti tv : RE) : RS := fun Z ρ => tv ρ fun d => match ρ[j]? with
  | some (some (.ml ds)) => ti ρ fun x => (match x with
    | .int k => (0 ≤ k ∧ k < ds.length) ∧ Z.nx (ρ.set j (some (.ml (ds.set k.toNat d))))
    | _ => False)
  | _ => False
theorem s_sti {j : Nat} (ho : PE X o (tVar j)) (hi : ED X i ti) (hv : ED X value tv) (hs : swapsWithSole [.Subscript o i pos'] value pos.line X.env = pure false := by rfl) (hw : swappedStores [.Subscript o i pos'] value X.env = pure none := by rfl)
    (h1 : (assignEach [.Subscript o i pos'] X.env).map (·.2) = [assign (.Subscript o i pos') X.env] := by rfl)
    (ha : ∀ v, assign (.Subscript o i pos') X.env v = (do
      let ov ← holding [v] (eval o X.env)
      let iv ← holding [v, ov] (eval i X.env)
      standAt pos'
      holding [v, ov, iv] (setItem ov iv v)
      release [v, ov, iv] []) := by intro _; rfl) :
    SD X (.Assign [.Subscript o i pos'] value pos) (ssti j ti tv) := fun F hF => (ps_asg (hv F hF) (pg_sub ho (hi F hF) set_list ha) hs hw h1).imp fun D_ σ H => by
  rintro ⟨E, ρ, Z, env, h, sv⟩
  refine ⟨E, ρ, _, env, h, fun d hd w H1 x1 hw => ?_⟩
  have e1 := env.step x1
  split at hd
  · rename_i ds hj
    obtain ⟨v, hv', p, xs, ev, hE, hB, h0, hp, ha⟩ := e1.sl j _ hj
    subst ev
    refine ⟨_, hv', E, ρ, _, e1, hd, fun x hx y H2 x2 hy => ?_⟩
    have e2 := e1.step x2
    obtain ⟨v', hv'', p', xs', ev, hE', hB', h0', hp', ha'⟩ := e2.sl j _ hj
    rw [hv'] at hv''; cases hv''; cases ev
    cases x with
    | int k =>
      obtain ⟨⟨k0, k1⟩, hnx⟩ := hx
      have ey : y = .int k := hy
      refine ⟨p, xs', k, k.toNat, rfl, ey, hp', ?_, ?_⟩
      · unfold ixN
        have := ha'.len
        rw [if_pos k0, if_pos (by omega)]
      · exact sv.nx _ hnx E σ _ (e2.write hj hv' (ha'.set k.toNat (e1.dn x2 hw)))
    | _ => exact hx.elim
  · exact hd.elim
def dcnt (j : Nat) (te : RE) : RE := fun ρ q => match ρ[j]? with
  | some (some (.im (.lst xs))) => te ρ fun d => (match d, intsD xs with
    | .int k, some ns => q (.int (ns.count k : Nat))
    | _, _ => False)
  | _ => False
theorem e_cnt {j : Nat} {apos cpos : Pos} (ho : PE X o (tVar j)) (he : ED X e ta)
    (hbase : attributeBase o "count" X.env (eval o X.env) = eval o X.env := by rfl)
    (hfew : ((backTo cpos (starEach (e :: []) X.env)).all (fun x => !x.1) && (backToKw cpos (keywordEach [] X.env)).all (fun x => x.1.isSome)
      && decide ((e :: []).length + ([] : List Keyword).length + (if ([] : List Keyword).isEmpty then 0 else 1) < 30)) = true := by rfl)
    (hline : (apos.endLine == cpos.line) = true := by rfl) (hs : starEach (e :: []) X.env = (false, eval e X.env) :: starEach [] X.env := by rfl) (hplain : (backTo cpos (starEach [] X.env)).any (·.1) = false := by rfl) :
    ED X (.Call (.Attribute o "count" apos) [e] [] cpos) (dcnt j ta) := fun F hF =>
  (pe_bm PySem.F.plainAttrs_list PySem.F.slot_list_count PySem.F.type_list_count mt_lcount ho (pa_cons (he F hF) pa_nil hs) hbase hfew hline hs hplain).imp fun σ H Q => by
  rintro ⟨E, ρ, q, env, h, k⟩
  unfold dcnt at h
  split at h
  · rename_i xs hj
    obtain ⟨v, hv, hd⟩ := env.sl j _ hj
    have hd' : Dn F.K E H (.lst xs) v := hd
    obtain ⟨p, us, rfl, t, g⟩ := id hd'
    refine ⟨_, hv, .inl ⟨rfl, us, hF ▸ t.sq⟩, ?_⟩
    refine ⟨E, ρ, _, env, h, fun d hdq w H1 x1 hw => ?_⟩
    have d1 : Dn F.K E H1 (.lst xs) (.ref p) := env.dn x1 hd'
    obtain ⟨p', us', ep, t', g'⟩ := id d1
    cases ep
    cases d with
    | int n =>
      cases qi : intsD xs with
      | none => rw [qi] at hdq; exact hdq.elim
      | some ns =>
        rw [qi] at hdq
        have eu := intsD_of g' qi
        subst eu
        have ew : w = .int n := hw
        subst ew
        exact ⟨p, ns, n, rfl, rfl, hF ▸ t'.sq, k _ hdq _ H1 x1 rfl⟩
    | _ => exact (show False from hdq).elim
  · exact h.elim
end
end DL

set_option Elab.async false
set_option linter.all false
set_option maxRecDepth 100000
set_option maxHeartbeats 4000000
namespace DL
open PySem L2
section
variable {X : Cx} {tg iter : Expr}
/-- a local that is a list or a tuple -/
def iseq (i : Nat) : RL := fun ρ q => match ρ[i]? with
  | some (some (.im (.lst ds))) => q ds
  | some (some (.im (.tup ds))) => q ds
  | _ => False
theorem i_seq {i : Nat} (h1 : ID X tg iter (ilst (dvar i))) (h2 : ID X tg iter (itup (dvar i))) : ID X tg iter (iseq i) := fun F hF => ⟨fun pins s σ H R I q => by
  obtain ⟨E, ρ, q', env, h, k⟩ := q
  unfold iseq at h
  split at h
  · rename_i ds hj
    exact (h1 F hF).run pins s σ H R I ⟨E, ρ, q', env, (by show (match ρ[i]? with | some (some (.im d)) => _ | _ => False); rw [hj]; exact h), k⟩
  · rename_i ds hj
    exact (h2 F hF).run pins s σ H R I ⟨E, ρ, q', env, (by show (match ρ[i]? with | some (some (.im d)) => _ | _ => False); rw [hj]; exact h), k⟩
  · exact h.elim⟩
end
end DL

set_option Elab.async false
set_option linter.all false
set_option maxRecDepth 100000
set_option maxHeartbeats 4000000
namespace DL
open PySem L2 PySem.Spec PyProof.Rows
section
variable {X : Cx}
/-! ### tuples of numbers: less; at least; lots in lists and tuples of lots -/
def rLtT : R2D := fun x y q => match x, y with
  | .tup xs, .tup ys => (match intsD xs, intsD ys with
    | some ns, some ms => q (.bl (HT.lexLt ns ms))
    | _, _ => False)
  | _, _ => False
theorem o_ltT {k : Nat} (hr : Room k X.A) : OpD X (compareOp .Lt) rLtT := by
  refine ⟨_, op_ltT (by have := hr.un; omega), fun F E H x y u v q Q hF at_ hx hy h k => ?_⟩
  unfold rLtT at h
  split at h
  · rename_i xs ys
    obtain ⟨a, us, rfl, t1, g1⟩ := hx
    obtain ⟨b, ws, rfl, t2, g2⟩ := hy
    cases q1 : intsD xs with
    | none => rw [q1] at h; exact h.elim
    | some ns =>
      cases q2 : intsD ys with
      | none => rw [q1, q2] at h; exact h.elim
      | some ms =>
        rw [q1, q2] at h
        have ex := intsD_of g1 q1
        have ey := intsD_of g2 q2
        subst ex ey
        exact ⟨a, b, ns, ms, rfl, rfl, by rw [← hF]; exact t1.sq, by rw [← hF]; exact t2.sq, k _ h _ H (XExt.refl at_.so) rfl⟩
  · exact h.elim
def lexG (ns ms : List Int) : Bool := Ob.lexAt (fun j => decide (ns.getD j 0 = ms.getD j 0)) (fun j => decide (ns.getD j 0 ≥ ms.getD j 0)) (decide (ns.length ≥ ms.length)) 0 (min ns.length ms.length)
def rGeTv (K : PySem.W.Frag) : R2 := fun x y H Q => ∃ (a b : Addr) (ns ms : List Int), x = .ref a ∧ y = .ref b ∧ SqT K H a (ns.map V.int) ∧ SqT K H b (ms.map V.int) ∧ Q (.bl (lexG ns ms)) H
theorem op_geT (hu : X.A.units < cLine) : OpR X (compareOp .GtE) (rGeTv X.K) := by
  intro pins s σ H x y v u Q I rx ry h
  obtain ⟨a, b, ns, ms, rfl, rfl, ha, hb, q⟩ := h
  cases rx
  cases ry
  obtain ⟨its, r1, p1, _⟩ := I.tuple ha
  obtain ⟨its2, r2, p2, _⟩ := I.tuple hb
  have i1 : IntsAre its ns := Vals.ints r1
  have i2 : IntsAre its2 ms := Vals.ints r2
  have e1 : its.toArray.size = ns.length := by rw [List.size_toArray]; exact i1.length
  have e2 : its2.toArray.size = ms.length := by rw [List.size_toArray]; exact i2.length
  have at1 : ∀ j (h1 : j < its.toArray.size), ∃ t, its.toArray[j] = .int (ns.getD j 0) t := fun j h1 => PyProof.Rows.IntsAre.int_at i1 _ _ (by simp at h1; simp [h1])
  have at2 : ∀ j (h1 : j < its2.toArray.size), ∃ t, its2.toArray[j] = .int (ms.getD j 0) t := fun j h1 => PyProof.Rows.IntsAre.int_at i2 _ _ (by simp at h1; simp [h1])
  have R := Ob.RcOp.tuples_ge (A := X.A) (s := s) (e := fun j => decide (ns.getD j 0 = ms.getD j 0)) (r := fun j => decide (ns.getD j 0 ≥ ms.getD j 0)) p1 p2 hu (fun j h1 h2 => by
    obtain ⟨t, et⟩ := at1 j h1
    obtain ⟨t', et'⟩ := at2 j h2
    rw [et, et']
    have z : (ns.getD j 0 == ms.getD j 0) = decide (ns.getD j 0 = ms.getD j 0) := by
      by_cases q : ns.getD j 0 = ms.getD j 0
      · rw [decide_eq_true q]; exact beq_iff_eq.mpr q
      · rw [decide_eq_false q]; exact beq_eq_false_iff_ne.mpr q
    rw [← z]
    exact SeqAt.EqAt.int_int _ _ _ _) (fun j h1 h2 _ => by
    obtain ⟨t, et⟩ := at1 j h1
    obtain ⟨t', et'⟩ := at2 j h2
    rw [et, et']
    exact Ob.RcOp.ge_int _ _ _ _)
  rw [e1, e2] at R
  have z : wpAny (model X.prog X.w) X.A (compareOp .GtE (.ref a) (.ref b)) (EP X pins σ Q) X.xe s := R X.prog X.w X.xe (EP X pins σ Q) ⟨.bl _, H, I, rfl, q⟩
  exact z
def rGeT : R2D := fun x y q => match x, y with
  | .tup xs, .tup ys => (match intsD xs, intsD ys with
    | some ns, some ms => q (.bl (lexG ns ms))
    | _, _ => False)
  | _, _ => False
theorem o_geT {k : Nat} (hr : Room k X.A) : OpD X (compareOp .GtE) rGeT := by
  refine ⟨_, op_geT (by have := hr.un; omega), fun F E H x y u v q Q hF at_ hx hy h k => ?_⟩
  unfold rGeT at h
  split at h
  · rename_i xs ys
    obtain ⟨a, us, rfl, t1, g1⟩ := hx
    obtain ⟨b, ws, rfl, t2, g2⟩ := hy
    cases q1 : intsD xs with
    | none => rw [q1] at h; exact h.elim
    | some ns =>
      cases q2 : intsD ys with
      | none => rw [q1, q2] at h; exact h.elim
      | some ms =>
        rw [q1, q2] at h
        have ex := intsD_of g1 q1
        have ey := intsD_of g2 q2
        subst ex ey
        exact ⟨a, b, ns, ms, rfl, rfl, by rw [← hF]; exact t1.sq, by rw [← hF]; exact t2.sq, k _ h _ H (XExt.refl at_.so) rfl⟩
  · exact h.elim
def rNotInTv (K : PySem.W.Frag) : R2 := fun x y H Q => ∃ d ds, Dp K H x d ∧ Dp K H y (.tuple ds) ∧ SeqAt.shaped d = true ∧ SeqAt.shaped (.tuple ds) = true ∧ Q (.bl (!ds.any fun z => PyData.eqv z d)) H
theorem op_notInTD (hu : X.A.units + 65 < cLine) : OpR X (compareOp .NotIn) (rNotInTv X.K) := by
  intro pins s σ H x y v u Q I rx ry h
  obtain ⟨d, ds, hd, he, sd, se, q⟩ := h
  obtain ⟨as, r1⟩ := Dp.reads I d x v hd rx
  obtain ⟨bs, r2⟩ := Dp.reads I (.tuple ds) y u he ry
  exact SeqAt.notIn_tuple_reads r2 r1 (SeqAt.canLay_of_shaped se) (SeqAt.canLay_of_shaped sd) (room_in_shaped sd hu) ⟨.bl _, H, I, rfl, q⟩
def rNotInQ : R2D := fun x y q => match y with
  | .tup ds => x.fit = true ∧ (D.tup ds).fit = true ∧ q (.bl (!isIn x ds))
  | .lst ds => x.fit = true ∧ (D.lst ds).fit = true ∧ q (.bl (!isIn x ds))
  | _ => False
theorem o_notinQ {k : Nat} (hr : Room k X.A) : OpD X (compareOp .NotIn) rNotInQ := by
  have hu : X.A.units + 65 < cLine := Nat.lt_of_le_of_lt (by have := hr.un; omega) hr.un
  refine ⟨_, (op_notInTD hu).or (op_notInD hu), fun F E H x y u v q Q hF at_ hx hy h k => ?_⟩
  cases y with
  | tup ds =>
    obtain ⟨h1, h2, h3⟩ := h
    refine .inl ⟨x.py, D.pys ds, hF ▸ hx.dp h1, hF ▸ (Top.dp (d := .tup ds) h2 hy), fit_shaped h1, fit_shaped h2, ?_⟩
    refine k _ h3 _ H (XExt.refl at_.so) ?_
    rw [pys_any]
    rfl
  | lst ds =>
    obtain ⟨h1, h2, h3⟩ := h
    refine .inr ⟨x.py, D.pys ds, hF ▸ hx.dp h1, hF ▸ (Top.dp (d := .lst ds) h2 hy), fit_shaped h1, fit_shaped h2, ?_⟩
    refine k _ h3 _ H (XExt.refl at_.so) ?_
    rw [pys_any]
    rfl
  | _ => exact (show False from h).elim
/-! ### isinstance(x, (T, U)) where x may be {} -/
def D.plainE : D → Bool
  | .dct [] _ => true
  | d => d.plain
theorem kit_allE : ∀ a ∈ ["NoneType", "bool", "int", "str", "tuple", "list", "dict"], ∀ b ∈ ["bool", "int", "str", "tuple", "list"], kitB a b = some (isaS a b) := by decide +kernel
theorem tyD_memE {d : D} (h : d.plainE = true) : tyD d ∈ ["NoneType", "bool", "int", "str", "tuple", "list", "dict"] := by
  cases d with
  | obj c ns xs => exact absurd (show false = true from h) Bool.false_ne_true
  | _ => simp [tyD]
theorem Top.tyE {F : Fx} {E : Addr → Prop} {H : Hp} {d : D} {v : V} (hp : d.plainE = true) (h : Top F E H d v) : TyX F.K H v (.type (tyD d)) := by
  cases d with
  | dct ks vs =>
    cases ks with
    | nil =>
      obtain ⟨a, us, ws, rfl, n, t, h1, h2⟩ := h
      rcases t with ⟨kvs, q1 | ⟨ne, _⟩, hu, _⟩ | ⟨_, _, z⟩
      · exact .base (.dK q1)
      · have : us = [] := h1
        rw [this] at hu
        exact (ne (List.map_eq_nil_iff.mp hu.symm)).elim
      · exact (z rfl).elim
    | cons k ks => exact absurd (show false = true from hp) Bool.false_ne_true
  | obj c ns xs => exact absurd (show false = true from hp) Bool.false_ne_true
  | non => exact Top.ty rfl h
  | bl b => exact Top.ty rfl h
  | int i => exact Top.ty rfl h
  | str x => exact Top.ty rfl h
  | tup xs => exact Top.ty rfl h
  | lst xs => exact Top.ty rfl h
def disi2E (T U : String) (t : RE) : RE := fun ρ q => t ρ fun d => d.plainE = true ∧ q (.bl (isaS (tyD d) T || isaS (tyD d) U))
theorem e_isi2E {e : Expr} {ta : RE} {pos p : Pos} {T U : String} {x y : Str} {p2 p3 p4 : Pos} {kt} (hT : T ∈ ["bool", "int", "str", "tuple", "list"]) (hU : U ∈ ["bool", "int", "str", "tuple", "list"]) (hg : Gl X "isinstance") (hm : X.mg "isinstance" = none)
    (hgT : Gl X x) (hmT : X.mg x = none) (hvT : bootBuiltins x = some (.type T)) (hgU : Gl X y) (hmU : X.mg y = none) (hvU : bootBuiltins y = some (.type U)) (ha : BD X e ta)
    (hn : x ≠ "__name__" := by decide) (hdb : (x == ("__debug__" : Str)) = false := by decide) (hn2 : y ≠ "__name__" := by decide) (hdb2 : (y == ("__debug__" : Str)) = false := by decide)
    (h1 : starEach [e, .Tuple [.Name x p2, .Name y p3] kt p4] X.env = (false, eval e X.env) :: starEach [.Tuple [.Name x p2, .Name y p3] kt p4] X.env := by rfl)
    (h2 : starEach [.Tuple [.Name x p2, .Name y p3] kt p4] X.env = (false, eval (.Tuple [.Name x p2, .Name y p3] kt p4) X.env) :: starEach [] X.env := by rfl)
    (h3 : starEach [.Name x p2, .Name y p3] X.env = (false, eval (.Name x p2) X.env) :: starEach [.Name y p3] X.env := by rfl)
    (h4 : starEach [.Name y p3] X.env = (false, eval (.Name y p3) X.env) :: starEach [] X.env := by rfl)
    (hpl : (backTo pos (starEach [.Tuple [.Name x p2, .Name y p3] kt p4] X.env)).any (·.1) = false := by rfl) :
    ED X (.Call (.Name "isinstance" p) [e, .Tuple [.Name x p2, .Name y p3] kt p4] [] pos) (disi2E T U ta) := fun F hF => by
  refine (pe_callB call_isiT hg hm PyProof.Rows.boot_isinstance (pa_cons (ha F hF) (pa_cons (pe_tup (pa_cons (pe_bltn (v := .ty T) hgT hmT hvT rfl hn hdb) (pa_cons (pe_bltn (v := .ty U) hgU hmU hvU rfl hn2 hdb2) pa_nil h4) h3)) pa_nil h2) h1) (by decide) (by decide) h1 hpl).imp fun σ H Q => ?_
  rintro ⟨E, ρ, q, env, h, k⟩
  refine ⟨E, ρ, _, env, h, fun d hd v H1 x1 hv => ⟨(by show 2 ≤ sizeLine; decide), fun tp htp => ?_⟩⟩
  have e1 := env.step x1
  have x2 : XExt F H1 (upd H1 tp (.tup [.ty T, .ty U])) := XExt.new e1.so htp
  have ty : TyX X.K (upd H1 tp (.tup [.ty T, .ty U])) v (.type (tyD d)) := hF ▸ (hv.ext e1.at_ x2).tyE hd.1
  refine ⟨v, tp, [.ty T, .ty U], _, [.type T, .type U], _, rfl, upd_same, .cons (.ty T) (.cons (.ty U) .nil), ty, ?_, k _ hd.2 _ _ (x1.trans x2) rfl⟩
  refine kitAny_cons (kit_ty (kit_allE _ (tyD_memE hd.1) _ hT)) (fun hb => ?_) (fun hb => by rw [hb]; rfl)
  refine kitAny_cons (kit_ty (kit_allE _ (tyD_memE hd.1) _ hU)) (fun hc => ?_) (fun hc => by rw [hb, hc]; rfl)
  rw [hb, hc]
  exact kitAny_nil
end
end DL

set_option Elab.async false
set_option linter.all false
set_option maxRecDepth 100000
set_option maxHeartbeats 4000000
namespace DL
open PySem L2 PySem.W PySem.SeqAt PyProof.Rows
/-! ### sorted(tuples, the first of which is ()) -/
section
variable {prog : Program} {w : World} {A : Around} {E : Value → Shared → Prop} {s : Shared}
theorem call_tupLt {Q : Value → Shared → Prop} {l b : Addr} {xs ys : Array Value} {e r : Nat → Bool} (hl : s.heap.IsTuple l xs) (hb : s.heap.IsTuple b ys)
    (he : ∀ j (h1 : j < xs.size) (h2 : j < ys.size), EqAt A.in1 s xs[j] ys[j] (e j)) (hr : ∀ j (h1 : j < xs.size) (h2 : j < ys.size), e j = false → RcLt A.in1 s xs[j] ys[j] (r j))
    (h : Q (.bool (firstLt e r (decide (xs.size < ys.size)) (List.range (min xs.size ys.size)))) s) : wpAny (model prog w) A (call (.builtin "tuple.__lt__") [.ref l, .ref b]) Q E s := by
  obtain ⟨⟨c1, d1, dt1, s1⟩, o1, k1, n1, q1⟩ := id hl
  obtain ⟨⟨c2, d2, dt2, s2⟩, o2, k2, n2, q2⟩ := id hb
  simp only at k1 q1 k2 q2
  subst k1 q1 k2 q2
  exact call_meets F.slot_tuple_lt ⟨_, o1, rfl⟩ F.entry_tuple_lt (F.args_tuple_lt_2 _ _) (tuple_ltAt l b xs ys n1 n2 d1 d2 s1 s2 e r) ⟨o1, o2, he, hr, h⟩
theorem oneLt_tup {xs ys : List PyData} {a b : Value} {as bs : List Addr} {Q : Bool → Shared → Prop} (ra : Reads s.heap a (.tuple xs) as) (rb : Reads s.heap b (.tuple ys) bs) (h : alikeAll xs ys = true)
    (hu : A.units + min (PyData.tuple xs).depth (PyData.tuple ys).depth < cLine) (hq : Q (dataLt (.tuple xs) (.tuple ys)) s) : wpAny (model prog w) A (oneLt' true a b) Q E s := by
  cases ra with
  | @tuple l o1 v1 n1 _ as1 p1 p2 p3 p4 =>
    cases rb with
    | @tuple l2 o2 v2 n2 _ as2 q1 q2 q3 q4 =>
      have e1 : v1.size = xs.length := by simpa using ReadsAll.length _ _ _ p4
      have e2 : v2.size = ys.length := by simpa using ReadsAll.length _ _ _ q4
      rw [dataLt_tuple, ← firstLt_toks xs ys h, ← e1, ← e2] at hq
      rw [oneLt'_eq]
      simp only [if_true]
      refine wpAny_bind (wpAny_cRoomFor (room_here hu) ?_)
      refine wpAny_bind (wpAny_callSpecialIfBound?_slot (T := "tuple") ⟨_, p1, p2⟩ F.slot_tuple_lt (call_tupLt (e := pairEq xs ys) (r := fun j => dataLt (xs.getD j .none) (ys.getD j .none)) ⟨_, p1, p2, _, p3⟩ ⟨_, q1, q2, _, q3⟩ (fun j j1 j2 => ?_) (fun j j1 j2 hj => ?_) ?_))
      · have g := eqAt_alikeAll xs ys A.in1 s v1.toList v2.toList _ _ p4 q4 h (room_in hu) j (by simpa using j1) (by simpa using j2)
        rw [Array.getElem_toList, Array.getElem_toList] at g
        exact g
      · have g := rcLt_alikeAll xs ys A.in1 s v1.toList v2.toList _ _ p4 q4 h (room_in hu) j (by simpa using j1) (by simpa using j2) hj
        rw [Array.getElem_toList, Array.getElem_toList] at g
        exact g
      · exact wpAny_truthy_bool hq
/-- all are tuples, the first is () -/
def EmptyFirst (ds : List PyData) : Prop := ds[0]? = some (.tuple []) ∧ ∀ d, d ∈ ds → ∃ xs, d = .tuple xs
theorem firsts_any {M : Model} : ∀ {vs : List Value} {ds : List PyData} {Q : List (Option Value) → Shared → Prop}, EachIs (fun v d => ∃ as, Reads s.heap v d as) vs ds → (∀ d, d ∈ ds → ∃ xs, d = .tuple xs) →
    (∀ fs : List (Option Value), fs.length = vs.length → (ds[0]? = some (.tuple []) → fs[0]? = some none) → Q fs s) → wpAny M A (vs.mapM firstOfTuple') Q E s
  | _, _, Q, .nil, _, h => by
    rw [List.mapM_nil]
    exact wpAny_pure (h [] rfl fun z => by cases z)
  | _, _, Q, .cons (b := d) ⟨as, r⟩ t, ht, h => by
    obtain ⟨xs, rfl⟩ := ht d (List.mem_cons_self ..)
    cases r with
    | @tuple a o vs n _ _ p1 p2 p3 p4 =>
      rw [List.mapM_cons]
      refine wpAny_bind ?_
      rw [kas_first_eq]
      refine wpAny_bind (Looks.here (show Looks M s.heap (typeOf (.ref a)) o.cls from (Looks.ld p1).andThen .now) ?_)
      rw [p2, if_neg (by first | decide | simp)]
      refine wpAny_bind (listItems_at p1 p3 (wpAny_pure ?_))
      refine wpAny_bind (firsts_any t (fun d hd => ht d (List.mem_cons_of_mem _ hd)) fun fs hl _ => wpAny_pure (h _ (by rw [List.length_cons, List.length_cons, hl]) fun z => ?_))
      have z' : xs = [] := by
        simp only [List.getElem?_cons_zero, Option.some.injEq, PyData.tuple.injEq] at z
        exact z
      subst z'
      have : vs.toList = [] := by
        cases q : vs.toList with
        | nil => rfl
        | cons x r => rw [q] at p4; cases p4
      have e0 : vs[0]? = none := by rw [← Array.getElem?_toList, this]; rfl
      rw [e0]
      rfl
theorem kind_empty {M : Model} {vs : List Value} {ds : List PyData} (e : EachIs (fun v d => ∃ as, Reads s.heap v d as) vs ds) (h : EmptyFirst ds) {Q : SortKind → Shared → Prop} (hq : Q oneType' s) : wpAny M A (keyKind' vs.toArray) Q E s := by
  have hT : ∀ v ∈ vs, Looks M s.heap (typeOf v) (Value.type "tuple") := fun v hv => by
    obtain ⟨d, hd, as, r⟩ := e.left v hv
    obtain ⟨xs, rfl⟩ := h.2 d hd
    exact looks_reads r
  have hne : vs ≠ [] := by
    intro z
    subst z
    cases e
    have := h.1
    cases this
  rw [keyKind'_eq, List.mapM_toArray, map_eq_pure_bind]
  refine wpAny_bind (wpAny_bind (firsts_any e h.2 fun fs hl hf => wpAny_pure ?_))
  have hf0 := hf h.1
  have hmem : (none : Option Value) ∈ fs := List.mem_of_getElem? hf0
  have h1 : ¬ (fs.toArray.all fun x => x.isSome) = true := by
    rw [List.all_toArray, List.all_eq_true]
    intro z
    have := z none hmem
    cases this
  have h2 : ¬ (fs.toArray[0]?.bind id).isSome = true := by
    rw [List.getElem?_toArray, hf0]
    exact Bool.false_ne_true
  rw [if_neg h1, if_neg h2, oneTypeOnly'_eq, List.mapM_toArray, map_eq_pure_bind]
  refine wpAny_bind (wpAny_bind (wpAny_bind (kas_mapM (r := Value.type "tuple") _ (fun v hv Q' hq => (hT v hv).here hq) (wpAny_pure ?_))))
  obtain ⟨v, r, rfl⟩ : ∃ v r, vs = v :: r := by
    cases vs with
    | nil => exact (hne rfl).elim
    | cons v r => exact ⟨v, r, rfl⟩
  have hall : ((List.map (fun _ => Value.type "tuple") (v :: r)).toArray.all fun x => x == Value.type "tuple") = true := by
    rw [List.all_toArray, List.all_eq_true]
    intro x hx
    obtain ⟨_, _, rfl⟩ := List.mem_map.mp hx
    exact beq_self_eq_true _
  have h0 : (List.map (fun _ => Value.type "tuple") (v :: r)).toArray[0]? = some (Value.type "tuple") := by simp
  rw [h0]
  simp only [hall, if_true]
  exact wpAny_pure (wpAny_pure hq)
theorem sorts_empty {vs : List Value} {ds : List PyData} (e : EachIs (fun v d => ∃ as, Reads s.heap v d as) vs ds) (hal : AllAlike ds) (hk : EmptyFirst ds) (hu : ∀ d, d ∈ ds → A.units + d.depth < cLine) : SortsAt prog w A s (dataKind s.heap ds) vs := by
  refine ⟨fun v hv => ?_, oneType', ?_, fun h2 E Q hq => kind_empty e hk hq⟩
  · obtain ⟨d, hd, as, r⟩ := e.left v hv
    exact ⟨_, dataKind_some hal hd r⟩
  · intro E x y a b Q ha hb hq
    obtain ⟨d, as, hd, ra, rfl⟩ := dataKind_inv ha
    obtain ⟨d', as', hd', rb, rfl⟩ := dataKind_inv hb
    have hdd := hal d hd d' hd'
    obtain ⟨xs, rfl⟩ := hk.2 d hd
    obtain ⟨ys, rfl⟩ := hk.2 d' hd'
    rw [keyLt'_oneType]
    exact oneLt_tup ra rb (by simpa [alike] using hdd) (Nat.lt_of_le_of_lt (Nat.add_le_add_left (Nat.min_le_left _ _) _) (hu _ hd)) hq
theorem sorted_empty {β : Type} {vs : List Value} {bs : List β} {enc : β → PyData} {R : Value → β → Prop} {l : Addr} {Q : Value → Shared → Prop} (hl : s.heap.IsList l vs.toArray) (e : EachIs R vs bs) (er : EachIs (fun v b => ∃ as, Reads s.heap v (enc b) as) vs bs) (hal : AllAlike (bs.map enc)) (hk : EmptyFirst (bs.map enc)) (hL : bs.length ≤ sizeLine)
    (hu : ∀ b, b ∈ bs → A.units + 2 + (enc b).depth < cLine) (h : ∀ out, out.length = bs.length → EachIs R out (bs.mergeSort (dataLe false enc)) → Q (.ref (s.heap.objs.size + 1)) { s with heap := sortedAll s.heap vs (List.toArray out) }) :
    wpAny (model prog w) A (call (.builtin "sorted") [.ref l]) Q E s := by
  have er' : EachIs (fun v b => ∃ as, Reads (sortingHeap (copyHeap s.heap vs) (s.heap.objs.size + 1) vs) v (enc b) as) vs bs := er.mono fun _ _ ⟨as, r⟩ => ⟨as, PyProof.Rows.Reads.keeps (fun _ _ => sorting_copy_old) r⟩
  refine sorted_vals hl (sorts_empty (s := { s with heap := sortingHeap (copyHeap s.heap vs) (s.heap.objs.size + 1) vs }) (each_map (R := fun v d => ∃ as, Reads (sortingHeap (copyHeap s.heap vs) (s.heap.objs.size + 1) vs) v d as) enc er') hal hk (fun d hd => ?_)) (by rw [e.length]; exact hL)
    (h _ (by rw [sortVals_length false rfl]; exact e.length) (sortVals_data false e er' hal))
  obtain ⟨b, hb, rfl⟩ := List.mem_map.mp hd
  exact hu b hb
end
section
variable {X : Cx}
/-- sorted(list of tuples, the first of which is ()) -/
def rSortedE : RCD := fun ds q => match ds with
  | [.lst xs] => (D.lst xs).fit = true ∧ PySem.W.AllAlike (xs.map D.py) ∧ EmptyFirst (xs.map D.py) ∧ xs.length ≤ sizeLine ∧ q (.lst (xs.mergeSort (PySem.W.dataLe false D.py)))
  | _ => False
theorem c_sortedE {k : Nat} (hr : Room k X.A) : CallD X (.builtin "sorted") rSortedE := by
  refine ⟨fun vs H Q => ∃ a xs ds E, vs = [.ref a] ∧ SqL X.K H a xs ∧ DnA X.K E H ds xs ∧ (D.lst ds).fit = true ∧ PySem.W.AllAlike (ds.map D.py) ∧ EmptyFirst (ds.map D.py) ∧
    ∀ p ys, H p = none → DnA X.K E H (ds.mergeSort (PySem.W.dataLe false D.py)) ys → Q (.ref p) (upd H p (.lst ys)), ?_, ?_⟩
  · rintro pins s σ H vs us Q I r ⟨a, xs, ds, E, rfl, sq, dn, hf, hal, hso, q⟩
    obtain ⟨its, rv, hl, hz⟩ := I.list sq
    obtain ⟨u, rfl, ru⟩ := vals1 r
    obtain rfl : u = Value.ref a := ru
    have hf' : ∀ d ∈ ds, d.fitN 7 = true := fitsN_mem hf
    have ee := each_of dn rv
    have hdl : xs.length = ds.length := dn.len
    refine sorted_empty hl.isList ee (each_reads I hf' ee) hal hso (by omega) (fun d hd => ?_) fun out hol eo => ?_
    · have := (fitN_lay 7 d (hf' d hd)).2
      have := hr.un
      omega
    · obtain ⟨ys, ry, dy⟩ := each_back eo
      obtain ⟨e, he⟩ := PyProof.Rows.sortedAll_at s.heap its out.toArray
      have hfr := I.hok.fresh (show s.heap.objs.size ≤ s.heap.objs.size + 1 by omega)
      refine ⟨.ref (s.heap.objs.size + 1), _, I.laid (a := s.heap.objs.size + 1) (o := .lst ys) (t' := s.toks) (fun b o z => PyProof.Rows.sortedAll_old z) (by omega) ?_, rfl, q _ ys hfr dy⟩
      exact ⟨by rw [ry.length]; omega, out, e, ry, he⟩
  · intro F E H ds vs q Q hF at_ hv h k
    unfold rSortedE at h
    split at h
    · rename_i xs
      obtain ⟨v, rfl, a, ys, rfl, t, g⟩ := hv.one
      obtain ⟨h1, h2, h3, h4, h5⟩ := h
      refine ⟨a, ys, xs, E, rfl, t.sq, hF ▸ g, h1, h2, h3, fun p zs hp dz => ?_⟩
      exact k _ h5 _ _ (XExt.new at_.so hp) (at_.lst hp (hF.symm ▸ dz))
    · exact h.elim
end
end DL

set_option Elab.async false
set_option linter.all false
set_option maxRecDepth 100000
set_option maxHeartbeats 4000000
namespace DL
open PySem L2 PySem.Spec PyProof.Rows
/-! ### the keys of a locked dict whose keys are tuples -/
def ItO (d : Addr) (o : Obj) (u : HO) (us : List V) : It :=
  ⟨fun i H => H d = some (.frz o u) ∧ i < us.length, fun i H x H' => H' = H ∧ us[i]? = some x, fun i H => H d = some (.frz o u) ∧ us.length ≤ i⟩
theorem frzO {X : Cx} {pins : List (Addr × Obj)} {σ : L2.St} {H : Hp} {s : Shared} {d : Addr} {o : Obj} {nk : List NestedKey} {us ws : List V} (I : Inv X pins σ H s) (h : H d = some (.frz o (DictO d nk us ws))) :
    (d == sysModules) = false ∧ s.heap.get? d = some o ∧ o.ExactDict ∧ ∃ (es : Array DictEntry) (ep : Nat), o.data = .dict es ep ∧ es.size = us.length ∧
      ∀ (i : Nat) (x : V), us[i]? = some x → ∃ (en : DictEntry) (q : Addr), es[i]? = some en ∧ en.key = .ref q ∧ x = .ref q := by
  obtain ⟨hd, ⟨hs, hl, xs, e1, nd, e2, rv, o', es, ep, g1, g2, g3, g4⟩, _⟩ := I.hok d _ h
  rw [hd] at g1
  cases g1
  have l1 : es.size = xs.length := by rw [← Array.length_toList, g4, List.length_map]
  refine ⟨hs, hd, g2, es, ep, g3, by rw [l1, ← e2, List.length_map], fun i x hx => ?_⟩
  rw [← e2, List.getElem?_map] at hx
  cases q : xs[i]? with
  | none => rw [q] at hx; cases hx
  | some p =>
    rw [q] at hx
    refine ⟨ent0 p, p.2.1, ?_, rfl, (Option.some.inj hx).symm⟩
    rw [← Array.getElem?_toList, g4, List.getElem?_map, q]
    rfl
theorem turn_O {P : Program} {w : World} {K : PySem.W.Frag} {tg : Expr} {d : Addr} {o : Obj} {es : Array DictEntry} {ep : Nat} {nk : List NestedKey} {us ws : List V} (it : Addr) (hod : o.data = .dict es ep) : Turn P w K tg (ItO d o (DictO d nk us ws) us) [it] it (fun i h => h.IsKeyIter it d i us.length ep) := by
  have T0 := turn_keysT (P := P) (w := w) (K := K) (tg := tg) (d := d) (kvs := us.map fun _ => ([], V.non)) it hod
  rw [List.length_map] at T0
  have item : ∀ (X : Cx), X.prog = P → X.w = w → X.K = K → X.calm = true → ∀ (i : Nat) (pins : List (Addr × Obj)) (s : Shared) (σ : L2.St) (H : Hp) (E : Value → Shared → Prop), Inv X pins σ H s → (∀ b ∈ [it], FpOk X pins H b) → s.heap.IsKeyIter it d i us.length ep → (ItO d o (DictO d nk us ws) us).go i H →
      wpAny (model P w) X.A (pyNext (.ref it)) (fun r s1 => ∃ u, r = some u ∧ wpAny (model P w) X.A (letOwnedTupleGo tg (.ref it) u) (fun _ s2 => ∃ x H', Inv X pins σ H' s2 ∧ RelV x u ∧ (ItO d o (DictO d nk us ws) us).yld i H x H' ∧ s2.heap.IsKeyIter it d (i + 1) us.length ep ∧ ∀ b ∈ [it], H' b = none) E s1) E s := by
    intro X hP hw hK hc i pins s σ H E I hf st hg
    subst hP hw hK
    obtain ⟨hd, hi⟩ := hg
    obtain ⟨f0, f1, f2, f3, f4, f5⟩ := hf it (by simp)
    obtain ⟨hs, hgd, hx, es', ep', hdt, hsz, ent⟩ := frzO I hd
    obtain ⟨rfl, rfl⟩ := dict_ep hod hdt
    have hu : us[i]? = some us[i] := List.getElem?_eq_getElem hi
    obtain ⟨en, q, hen, hkey, hq⟩ := ent i _ hu
    refine next_key_item st hgd hdt hsz hen fun h' st' sb => ?_
    have I1 : Inv X pins σ H { s with heap := h' } := I.turned (t' := s.toks) (fun b ob hb e => (sb.2 b hb).trans e) f0 f1 f3 f4 f5
    obtain ⟨oi, e, c, dd⟩ := id st'
    exact ⟨en.key, rfl, go_of (s := { s with heap := h' }) e c dd (by decide) ⟨.ref q, H, I1, hkey, ⟨rfl, by rw [hu, hq]⟩, st', fun b hb => (hf b hb).1⟩⟩
  have done' : ∀ (X : Cx), X.prog = P → X.w = w → X.K = K → X.calm = true → ∀ (i : Nat) (pins : List (Addr × Obj)) (s : Shared) (σ : L2.St) (H : Hp) (E : Value → Shared → Prop), Inv X pins σ H s → (∀ b ∈ [it], FpOk X pins H b) → s.heap.IsKeyIter it d i us.length ep → (ItO d o (DictO d nk us ws) us).stop i H →
      wpAny (model P w) X.A (pyNext (.ref it)) (fun r s1 => r = none ∧ Inv X pins σ H s1) E s := by
    intro X hP hw hK hc i pins s σ H E I hf st hg
    subst hP hw hK
    obtain ⟨hd, hi⟩ := hg
    obtain ⟨f0, f1, f2, f3, f4, f5⟩ := hf it (by simp)
    obtain ⟨hs, hgd, hx, es', ep', hdt, hsz, ent⟩ := frzO I hd
    obtain ⟨rfl, rfl⟩ := dict_ep hod hdt
    exact next_key_end (I.ok.hd hc) st hgd hdt hsz hi fun h' eb => ⟨rfl, I.turned (t' := s.toks) (fun b ob hb e => eb b ob hb e) f0 f1 f3 f4 f5⟩
  exact ⟨T0.mem, T0.obj, T0.keep, item, done', T0.self⟩
theorem pi_keysO {X : Cx} {tg e : Expr} {td : TE} (he : PE X e td) : PI X tg e (fun σ H R => td σ H fun x H1 => ∃ d o nk us ws, x = .ref d ∧ H1 d = some (.frz o (DictO d nk us ws)) ∧ R (ItO d o (DictO d nk us ws) us) H1) := by
  refine ⟨fun pins s σ H R I h => ?_⟩
  refine thn (he.run pins s σ H _ I h) fun u s1 ⟨x, H1, I1, rx, d, o, nk, us, ws, ex, hd, q⟩ => ?_
  subst ex
  obtain rfl : u = Value.ref d := rx
  obtain ⟨hs, hgd, hx, es, ep, hdt, hsz, ent⟩ := frzO I1 hd
  refine iter_keys hs hgd hx hdt (pi_one (tk := s1.toks) I1 _ (turn_O _ hdt) ⟨_, Heap.get?_push_size _ rfl, rfl, ?_⟩ q)
  rw [hsz] <;> rfl
end DL

set_option Elab.async false
set_option linter.all false
set_option maxRecDepth 100000
set_option maxHeartbeats 4000000
namespace DL
open PySem L2
/-! ### data while a dict is locked, and behind it -/
/-- two heaps that differ at p alone, where a dict of tuple keys stands, locked or not -/
structure LkH (p : Addr) (u : HO) (H H' : Hp) : Prop where
  off : ∀ b, b ≠ p → H' b = H b
  at1 : Rd H p u
  at2 : Rd H' p u
  dict : (∃ nk us ws, u = DictO p nk us ws) ∨ ∃ kvs, kvs ≠ [] ∧ u = .dK kvs
theorem rd_two {H : Hp} {p : Addr} {u u' : HO} (n1 : ∀ o w, u ≠ .frz o w) (n2 : ∀ o w, u' ≠ .frz o w) (h1 : Rd H p u) (h2 : Rd H p u') : u = u' := by
  rcases h1 with h1 | ⟨o, h1⟩ <;> rcases h2 with h2 | ⟨o', h2⟩ <;> rw [h1] at h2
  · exact Option.some.inj h2
  · exact (n1 _ _ (Option.some.inj h2)).elim
  · exact (n2 _ _ (Option.some.inj h2).symm).elim
  · have := Option.some.inj h2
    injection this
theorem rd_one {H : Hp} {p : Addr} {nk nk' : List NestedKey} {us us' ws ws' : List V} (h1 : Rd H p (DictO p nk us ws)) (h2 : Rd H p (DictO p nk' us' ws')) : DictO p nk us ws = DictO p nk' us' ws' := rd_two (fun _ _ z => by cases z) (fun _ _ z => by cases z) h1 h2
section
variable {p : Addr} {u : HO} {H H' : Hp} (L : LkH p u H H')
include L
theorem LkH.nf : ∀ o w, u ≠ .frz o w := by
  rintro o w rfl
  rcases L.dict with ⟨nk, us, ws, hu⟩ | ⟨kvs, _, hu⟩ <;> cases hu
theorem LkH.ne_of {a : Addr} {v : HO} (h : H a = some v) (h1 : ∀ nk us ws, v ≠ DictO p nk us ws) (h2 : ∀ o w, v ≠ .frz o w) (h3 : ∀ kvs, v ≠ .dK kvs := by intro _ z; cases z) : a ≠ p := fun e => by
  subst e
  have e := rd_two h2 L.nf (.inl h) L.at1
  rcases L.dict with ⟨nk, us, ws, hu⟩ | ⟨kvs, _, hu⟩
  · exact h1 _ _ _ (e.trans hu)
  · exact h3 _ (e.trans hu)
theorem LkH.keep {a : Addr} {v : HO} (h : H a = some v) (h1 : ∀ nk us ws, v ≠ DictO p nk us ws) (h2 : ∀ o w, v ≠ .frz o w) (h3 : ∀ kvs, v ≠ .dK kvs := by intro _ z; cases z) : H' a = some v := by
  rw [L.off a (L.ne_of h h1 h2 h3)]
  exact h
theorem LkH.rd {a : Addr} {v : HO} (nv : ∀ o w, v ≠ .frz o w) (h1 : Rd H a v) : Rd H' a v := by
  by_cases e : a = p
  · subst e
    rw [rd_two nv L.nf h1 L.at1]
    exact L.at2
  · rcases h1 with h1 | ⟨o, h1⟩
    · exact .inl (by rw [L.off a e]; exact h1)
    · exact .inr ⟨o, by rw [L.off a e]; exact h1⟩
theorem LkH.dcat {a : Addr} {ks : List D} {us ws : List V} (h : DcAt H a ks us ws) : DcAt H' a ks us ws := by
  rcases h with ⟨kvs, h1, h2⟩ | ⟨h1, h2⟩
  · refine .inl ⟨kvs, ?_, h2⟩
    rcases h1 with h1 | ⟨ne, o, h1⟩
    · by_cases e : a = p
      · subst e
        have e := rd_two (fun _ _ z => by cases z) L.nf (.inl h1) L.at1
        rcases L.dict with ⟨nk, us', ws', hu⟩ | ⟨kvs', ne, hu⟩
        · cases e.trans hu
        · have e' : kvs = kvs' := by injection e.trans hu
          subst e'
          rcases L.at2 with q | ⟨o, q⟩
          · exact .inl (by rw [q, hu])
          · exact .inr ⟨ne, o, by rw [q, hu]⟩
      · exact .inl (by rw [L.off a e]; exact h1)
    · rcases L.rd (v := .dK kvs) (fun _ _ z => by cases z) (.inr ⟨o, h1⟩) with q | q
      · exact .inl q
      · exact .inr ⟨ne, q⟩
  · exact .inr ⟨L.rd (fun _ _ z => by cases z) h1, h2⟩
variable {K : PySem.W.Frag} {E : Addr → Prop}
mutual
theorem LkH.dn : ∀ (d : D) (v : V), Dn K E H d v → Dn K E H' d v
  | .non, _, h => h
  | .bl _, _, h => h
  | .int _, _, h => h
  | .str _, _, h => h
  | .tup ds, _, ⟨a, xs, e, t, g⟩ => ⟨a, xs, e, t.elim (fun z => .inl ⟨z.1, L.keep z.2 (fun _ _ _ z => by cases z) (fun _ _ z => by cases z)⟩) .inr, LkH.dna ds xs g⟩
  | .lst ds, _, ⟨a, xs, e, t, g⟩ => ⟨a, xs, e, ⟨t.1, L.keep t.2 (fun _ _ _ z => by cases z) (fun _ _ z => by cases z)⟩, LkH.dna ds xs g⟩
  | .obj c ns ds, _, ⟨a, dx, fs, e, n, t, h1, h2⟩ => ⟨a, dx, fs, e, n, L.keep t (fun _ _ _ z => by cases z) (fun _ _ z => by cases z), h1, LkH.dna ds _ h2⟩
  | .dct ks vs, _, ⟨a, us, ws, e, n, t, h1, h2⟩ => ⟨a, us, ws, e, n, L.dcat t, LkH.dna ks _ h1, LkH.dna vs _ h2⟩
theorem LkH.dna : ∀ (ds : List D) (xs : List V), DnA K E H ds xs → DnA K E H' ds xs
  | [], _, h => h
  | d :: ds, _, ⟨x, r, e, h1, h2⟩ => ⟨x, r, e, LkH.dn d x h1, LkH.dna ds r h2⟩
end
end
/-- a frame's facts go over -/
theorem LkH.env {p : Addr} {u : HO} {H H' : Hp} (L : LkH p u H H') {F F' : Fx} {E : Addr → Prop} {σ : St} {ρ : Rho} (nE : ¬ E p) (fK : F'.K = F.K) (fB : F'.B = F.B) (fs : F'.src = F.src) (fh : F'.held = F.held) (f0 : ∀ b, b ≠ p → F'.H0 b = F.H0 b) (fr : FExt F'.W F'.H0 H') (e : DEnv F E σ H ρ) : DEnv F' E σ H' ρ := by
  have fW : ∀ b, F'.W b ↔ F.W b := fun b => by unfold Fx.W; rw [fs]
  have ne : ∀ b, E b → b ≠ p := fun b hb z => nE (z ▸ hb)
  refine ⟨fr, fun b hb => by rw [fB]; exact e.wb b ((fW b).mp hb), fun b hb => e.sub b (by rw [← fB]; exact hb), fun b hb => by rw [L.off b (ne b hb)]; exact e.live b hb, ?_, e.len, fun q hq => ?_, fun i s hs => ?_, e.inj⟩
  · intro a c h
    rw [fs] at h
    obtain ⟨n, s, k, ns, h1, h2, hl⟩ := e.so a c h
    have wa : F.W a := ⟨a, c, h, .inl rfl⟩
    have wc : F.W c := ⟨a, c, h, .inr rfl⟩
    refine ⟨n, s, k, ns, ?_, ?_, hl⟩
    · rw [L.off a (ne a (e.sub a (e.wb a wa)))]; exact h1
    · rw [L.off c (ne c (e.sub c (e.wb c wc)))]; exact h2
  · rw [fK]
    rw [fh] at hq
    exact L.dn _ _ (e.hl q hq)
  · obtain ⟨v, h1, h2⟩ := e.sl i s hs
    refine ⟨v, h1, ?_⟩
    cases s with
    | im d => show Dn F'.K E H' d v; rw [fK]; exact L.dn _ _ h2
    | ml ds =>
      obtain ⟨q, xs, ev, hE, hB, h0, hp, ha⟩ := h2
      refine ⟨q, xs, ev, hE, by rw [fB]; exact hB, by rw [f0 q (ne q hE)]; exact h0, by rw [L.off q (ne q hE)]; exact hp, ?_⟩
      rw [fK]
      exact L.dna _ _ ha
    | md ks vs =>
      obtain ⟨q, us, ws, ev, hE, hB, h0, hp, ha, hb⟩ := h2
      refine ⟨q, us, ws, ev, hE, by rw [fB]; exact hB, by rw [f0 q (ne q hE)]; exact h0, hp.at fun o z => by rw [L.off q (ne q hE)]; exact z, ?_, ?_⟩
      · rw [fK]; exact L.dna _ _ ha
      · rw [fK]; exact L.dna _ _ hb
    | src =>
      obtain ⟨a, c, z1, z2⟩ := h2
      exact ⟨a, c, by rw [fs]; exact z1, z2⟩
/-- for x in d, d a dict of tuple keys that nobody changes -/
def sforK (j : Nat) (T : Tg) (tb : RS) : RS := fun Z ρ => match ρ[j]? with
  | some (some (.im (.dct ks _))) => ks.all D.tkey = true ∧ fordo T tb Z ks ρ
  | _ => False
theorem upd_twice {H : Hp} {p : Addr} {u v : HO} (h : H p = some u) : upd (upd H p v) p u = H := by
  funext b
  by_cases e : b = p
  · subst e; rw [upd_same, h]
  · rw [upd_ne e, upd_ne e]
theorem DEnv.holds {F : Fx} {E : Addr → Prop} {σ : St} {H : Hp} {ρ : Rho} (e : DEnv F E σ H ρ) {l L : List (V × D)} (hL : L = l ++ F.held) (h : ∀ q ∈ l, Dn F.K E H q.2 q.1) : DEnv { F with held := L } E σ H ρ :=
  ⟨e.fr, e.wb, e.sub, e.live, e.so, e.len, fun p hp => by
    have hp : p ∈ L := hp
    rw [hL] at hp
    rcases List.mem_append.mp hp with hp | hp
    · exact h p hp
    · exact e.hl p hp, fun i s hs => by
    obtain ⟨w, h1, h2⟩ := e.sl i s hs
    refine ⟨w, h1, ?_⟩
    cases s with
    | im d => exact h2
    | ml ds => exact h2
    | md ks vs => exact h2
    | src => exact h2, e.inj⟩
theorem DEnv.holds' {F : Fx} {E : Addr → Prop} {σ : St} {H : Hp} {ρ : Rho} {l : List (V × D)} (e : DEnv F E σ H ρ) (h : ∀ q ∈ l, q ∈ F.held) : DEnv { F with held := l } E σ H ρ :=
  ⟨e.fr, e.wb, e.sub, e.live, e.so, e.len, fun p hp => e.hl p (h p hp), fun i s hs => by
    obtain ⟨w, h1, h2⟩ := e.sl i s hs
    refine ⟨w, h1, ?_⟩
    cases s with
    | im d => exact h2
    | ml ds => exact h2
    | md ks vs => exact h2
    | src => exact h2, e.inj⟩
theorem DnA.zip {K : PySem.W.Frag} {E : Addr → Prop} {H : Hp} : ∀ {ks : List D} {us : List V}, DnA K E H ks us → ∀ q ∈ us.zip ks, Dn K E H q.2 q.1
  | [], us, _, q, hq => by rw [List.zip_nil_right] at hq; cases hq
  | k :: ks, _, ⟨x, r, e, h1, h2⟩, q, hq => by
    subst e
    rcases List.mem_cons.mp hq with rfl | hq
    · exact h1
    · exact DnA.zip h2 q hq
section
variable {X : Cx} {tg iter : Expr} {pos : Pos}
theorem s_forK {j : Nat} {T : Tg} {tb : RS} {body : List Stmt} (hp : PassesOwn (model X.prog X.w) X.A X.env X.xe) (hc : X.calm = true) (hv : PE X iter (tVar j)) (hg : GD X tg T) (hb : SsD X body tb)
    (hs : ∀ x, foldedSetIterable iter X.env x = pure x := by intro _; rfl) : SD X (.For tg iter body [] pos) (sforK j T tb) := fun F hF => by
  have hb' : PSs X body (fun D_ σ H => ∃ F' : Fx, F'.K = X.K ∧ liftS F' tb D_ σ H) := ⟨fun pins s σ H D_ I ⟨F', hK, q⟩ => (hb F' hK).run pins s σ H D_ I q⟩
  have A := ps_lock (ps_for (pos := pos) hp hc (pi_keysO (tg := tg) hv) hg hb' hs)
  have B := ps_lock (ps_for (pos := pos) hp hc (pi_keys (tg := tg) hv) hg hb' hs)
  have C := ps_for (pos := pos) hp hc (pi_keysO (tg := tg) hv) hg hb' hs
  refine PS.imp (t := fun D σ H => _ ∨ _ ∨ _) ⟨fun pins s σ H D I q => q.elim (A.run pins s σ H D I) fun q => q.elim (B.run pins s σ H D I) (C.run pins s σ H D I)⟩ fun D_ σ H => ?_
  rintro ⟨E, ρ, Z, env, h, sv⟩
  unfold sforK at h
  split at h
  · rename_i ks vs hj
    obtain ⟨htk, h⟩ := h
    obtain ⟨v, hvj, p, us, ws, ev, nE, dc, dk, dv⟩ := env.sl j _ hj
    subst ev
    have nW : ¬ F.W p := fun w => nE (env.sub p (env.wb p w))
    have hul : us.length = ks.length := dk.len
    -- the loop while p holds .frz od u
    have core : ∀ (u : HO) (od : Obj) (H1 : Hp) (D1 : Ends), (∃ nk, u = DictO p nk us ws) → H1 p = some (.frz od u) → DEnv { F with H0 := upd F.H0 p (.frz od u), held := us.zip ks ++ (V.ref p, D.dct ks vs) :: F.held } E σ H1 ρ →
        (∀ ρ2, Z.nx ρ2 → ∀ E2 σ2 H2, DEnv { F with H0 := upd F.H0 p (.frz od u), held := us.zip ks ++ (V.ref p, D.dct ks vs) :: F.held } E2 σ2 H2 ρ2 → D1.nx σ2 H2) →
        (∀ d, Z.rt d → ∀ v H2, XExt { F with H0 := upd F.H0 p (.frz od u), held := us.zip ks ++ (V.ref p, D.dct ks vs) :: F.held } ({ F with H0 := upd F.H0 p (.frz od u), held := us.zip ks ++ (V.ref p, D.dct ks vs) :: F.held } : Fx).H0 H2 → Dn F.K F.B H2 d v → D1.rt v H2) →
        ∃ W : Nat → Nat → St → Hp → Prop, (∃ m, W 0 m σ H1) ∧ ∀ i m σ H, W i m σ H → ((ItO p od u us).stop i H ∧ D1.nx σ H) ∨ ((ItO p od u us).go i H ∧ ∃ N : St → Hp → Prop, (∀ σ' H', N σ' H' → ∃ m', m' < m ∧ W (i + 1) m' σ' H') ∧ ∀ x H', (ItO p od u us).yld i H x H' → T.g X.K x σ H' fun σ2 H2 => ∃ F' : Fx, F'.K = X.K ∧ liftS F' tb { D1 with nx := N, ct := N, bk := D1.nx } σ2 H2) := by
      intro u od H1 D1 hu h1 env1 hnx hrt
      generalize hF2 : ({ F with H0 := upd F.H0 p (.frz od u), held := us.zip ks ++ (V.ref p, D.dct ks vs) :: F.held } : Fx) = F2 at env1 hnx hrt
      have k2 : F2.K = X.K := by rw [← hF2]; exact hF
      have frz : ∀ {E2 : Addr → Prop} {σ2 : St} {H2 : Hp} {ρ2 : Rho}, DEnv F2 E2 σ2 H2 ρ2 → H2 p = some (.frz od u) := fun e2 => e2.fr p _ (by rw [← hF2]; exact upd_same) (by rw [← hF2]; exact nW)
      refine ⟨fun i m σ H => m = ks.length - i ∧ i ≤ ks.length ∧ ∃ E ρ, DEnv F2 E σ H ρ ∧ fordo T tb Z (ks.drop i) ρ, ⟨ks.length, rfl, Nat.zero_le _, E, ρ, env1, h⟩, ?_⟩
      rintro i m σ H ⟨rfl, hi, E, ρ, env, hr⟩
      have hz := frz env
      by_cases hlt : i < ks.length
      · rw [List.drop_eq_getElem_cons hlt] at hr
        unfold fordo at hr
        split at hr
        · rename_i ρ' hput
          refine .inr ⟨⟨hz, by omega⟩, fun σ' H' => ∃ E ρ, DEnv F2 E σ' H' ρ ∧ fordo T tb Z (ks.drop (i + 1)) ρ, fun σ' H' q => ⟨_, Nat.sub_lt_sub_left hlt (Nat.lt_succ_self i), rfl, hlt, q⟩, fun x H' hx => ?_⟩
          obtain ⟨rfl, hx⟩ := hx
          have dx : Dn F2.K E H' ks[i] x := env.hl (x, ks[i]) (by
            rw [← hF2]
            refine List.mem_append_left _ ?_
            have hu2 : i < us.length := by omega
            rw [List.getElem?_eq_getElem hu2] at hx
            have : x = us[i] := (Option.some.inj hx).symm
            rw [this]
            exact List.mem_iff_getElem.mpr ⟨i, by rw [List.length_zip]; omega, by rw [List.getElem_zip]⟩)
          have g := Tg.sem (F := F2) (Q := fun σ2 H2 => ∃ F' : Fx, F'.K = X.K ∧ liftS F' tb { D1 with nx := fun σ' H' => ∃ E ρ, DEnv F2 E σ' H' ρ ∧ fordo T tb Z (ks.drop (i + 1)) ρ, ct := fun σ' H' => ∃ E ρ, DEnv F2 E σ' H' ρ ∧ fordo T tb Z (ks.drop (i + 1)) ρ, bk := D1.nx } σ2 H2) T env dx hput fun σ2 e3 _ => ⟨F2, k2, E, ρ', _, e3, hr, ⟨fun ρ2 h2 E2 σ2 H2 env2 => ⟨E2, ρ2, env2, h2⟩, fun d hd' v H2 x2 dv => hrt d hd' v H2 x2 (by rw [← hF2] at dv; exact dv), fun ρ2 h2 E2 σ2 H2 env2 => hnx ρ2 h2 E2 σ2 H2 env2, fun ρ2 h2 E2 σ2 H2 env2 => ⟨E2, ρ2, env2, h2⟩⟩⟩
          rw [k2] at g
          exact g
        · exact hr.elim
      · have hil : i = ks.length := by omega
        rw [hil, List.drop_length] at hr
        exact .inl ⟨⟨hz, by omega⟩, hnx _ hr E σ H env⟩
    have inn : ∀ (u : HO) (od : Obj) (H1 : Hp), (∃ nk, u = DictO p nk us ws) → Rd H p u → H1 p = some (.frz od u) → (∀ b, b ≠ p → H1 b = H b) → DEnv { F with H0 := upd F.H0 p (.frz od u), held := us.zip ks ++ (V.ref p, D.dct ks vs) :: F.held } E σ H1 ρ := by
      rintro u od H1 ⟨nk, hu⟩ r h1 off
      have L : LkH p u H H1 := ⟨off, r, .inr ⟨od, h1⟩, .inl ⟨nk, us, ws, hu⟩⟩
      have e1 : DEnv { F with H0 := upd F.H0 p (.frz od u) } E σ H1 ρ := L.env (F := F) nE rfl rfl rfl rfl (fun b hb => upd_ne hb) (fun b o hb w => by
        by_cases z : b = p
        · subst z
          rw [← hb, h1]
          exact upd_same.symm
        · have hb' : upd F.H0 p (.frz od u) b = some o := hb
          rw [upd_ne z] at hb'
          rw [off b z]
          exact env.fr b o hb' w) env
      refine e1.holds (l := us.zip ks ++ [(V.ref p, D.dct ks vs)]) (by simp) fun q hq => ?_
      rcases List.mem_append.mp hq with hq | hq
      · exact L.dn _ _ (DnA.zip dk q hq)
      · obtain rfl := List.mem_singleton.mp hq
        exact L.dn _ _ (show Dn F.K E H (D.dct ks vs) (V.ref p) from ⟨p, us, ws, rfl, nE, dc, dk, dv⟩)
    have out : ∀ (u : HO) (od : Obj) (H2 H3 : Hp), (∃ nk, u = DictO p nk us ws) → H2 p = some (.frz od u) → Rd H3 p u → H3 p = H p → (∀ b, b ≠ p → H3 b = H2 b) → FExt F.W (upd F.H0 p (.frz od u)) H2 → FExt F.W F.H0 H3 := by
      intro u od H2 H3 hu h2 r h3 off fe b o hb w
      by_cases z : b = p
      · subst z
        rw [h3]
        exact env.fr _ _ hb w
      · rw [off b z]
        exact fe b o (by rw [upd_ne z]; exact hb) w
    have bn : ∀ (u : HO) (od : Obj) (H3 H2 : Hp), (∃ nk, u = DictO p nk us ws) → H2 p = some (.frz od u) → Rd H3 p u → H3 p = H p → (∀ b, b ≠ p → H3 b = H2 b) → ∀ {E2 : Addr → Prop} {σ2 : St} {ρ2 : Rho}, DEnv { F with H0 := upd F.H0 p (.frz od u), held := us.zip ks ++ (V.ref p, D.dct ks vs) :: F.held } E2 σ2 H2 ρ2 → DEnv F E2 σ2 H3 ρ2 := by
      intro u od H3 H2 hu h2 r h3 off E2 σ2 ρ2 e2
      have n2 : ¬ E2 p := by
        obtain ⟨a, _, _, ea, na, _⟩ : Dn F.K E2 H2 (D.dct ks vs) (V.ref p) := e2.hl (V.ref p, D.dct ks vs) (List.mem_append_right _ List.mem_cons_self)
        cases ea
        exact na
      have e3 : DEnv { F with H0 := upd F.H0 p (.frz od u) } E2 σ2 H2 ρ2 := e2.holds' (fun q hq => List.mem_append_right _ (List.mem_cons_of_mem _ hq))
      have L : LkH p u H2 H3 := ⟨off, .inr ⟨od, h2⟩, r, .inl (hu.imp fun nk h => ⟨us, ws, h⟩)⟩
      exact L.env (F := { F with H0 := upd F.H0 p (.frz od u) }) n2 rfl rfl rfl rfl (fun b hb => (upd_ne hb).symm) (out u od H2 H3 hu h2 r h3 off e2.fr) e3
    have br : ∀ (u : HO) (od : Obj) (H3 H2 : Hp), (∃ nk, u = DictO p nk us ws) → H2 p = some (.frz od u) → Rd H3 p u → H3 p = H p → (∀ b, b ≠ p → H3 b = H2 b) → ∀ (d : D) (v : V), Z.rt d → XExt { F with H0 := upd F.H0 p (.frz od u), held := us.zip ks ++ (V.ref p, D.dct ks vs) :: F.held } (upd F.H0 p (.frz od u)) H2 → Dn F.K F.B H2 d v → D_.rt v H3 := by
      intro u od H3 H2 hu h2 r h3 off d v zr x2 dv
      have L : LkH p u H2 H3 := ⟨off, .inr ⟨od, h2⟩, r, .inl (hu.imp fun nk h => ⟨us, ws, h⟩)⟩
      exact sv.rt d zr v H3 ⟨out u od H2 H3 hu h2 r h3 off x2.1, (show F.SO H2 from x2.2).of fun b o wb hb => by rw [off b (fun z => nW (z ▸ wb))]; exact hb⟩ (L.dn _ _ dv)
    have fz : ∀ (u : HO) (od : Obj) {H2 : Hp}, FExt F.W (upd F.H0 p (.frz od u)) H2 → H2 p = some (.frz od u) := fun u od H2 fe => fe p _ upd_same nW
    rcases dc with ⟨kvs, hk, hus, _⟩ | ⟨hO | ⟨od, hO⟩, _, hne⟩
    · have hke : ks = [] := by
        cases ks with
        | nil => rfl
        | cons k ks =>
          exfalso
          obtain ⟨x, r, ex, hx, _⟩ := dk
          rw [List.all_cons, Bool.and_eq_true] at htk
          cases kvs with
          | nil => rw [hus] at ex; cases ex
          | cons q qs =>
            rw [hus] at ex
            have : x = kV q.1 := (List.cons.inj ex).1.symm
            subst this
            cases k with
            | tup ds =>
              obtain ⟨a, xs, e, _⟩ := hx
              rcases q with ⟨q1 | q1, q2⟩ <;> cases e
            | _ => exact absurd htk.1 (by simp [D.tkey])
      subst hke
      have hkv : kvs = [] := by
        have : us.length = 0 := hul
        rw [hus, List.length_map] at this
        exact List.eq_nil_of_length_eq_zero this
      subst hkv
      rcases hk with hk | ⟨ne, _⟩
      · refine .inr (.inl ⟨p, _, hk, trivial, fun od => ⟨_, hvj, p, od, rfl, .inl ⟨[], upd_same, fun i m σ1 H1 => i = 0 ∧ σ1 = σ ∧ H1 = upd H p (.frz od (.dK [])), ⟨0, rfl, rfl, rfl⟩, ?_⟩⟩⟩)
        rintro i m σ1 H1 ⟨rfl, rfl, rfl⟩
        refine .inl ⟨⟨upd_same, Nat.le_refl _⟩, upd_same, ?_⟩
        rw [upd_twice hk]
        exact sv.nx ρ h E _ H env
      · exact (ne rfl).elim
    · refine .inl ⟨p, _, hO, trivial, fun od => ⟨_, hvj, p, od, _, us, ws, rfl, upd_same, core _ od _ _ ⟨_, rfl⟩ upd_same (inn _ od _ ⟨_, rfl⟩ (.inl hO) upd_same fun b hb => upd_ne hb) (fun ρ2 z2 E2 σ2 H2 e2 => ?_) (fun d zd v H2 x2 dv => ?_)⟩⟩
      · have f := fz _ od e2.fr
        exact ⟨f, sv.nx ρ2 z2 E2 σ2 _ (bn _ od _ H2 ⟨_, rfl⟩ f (.inl upd_same) (by rw [upd_same, hO]) (fun b hb => upd_ne hb) e2)⟩
      · have f := fz _ od x2.1
        exact ⟨f, br _ od _ H2 ⟨_, rfl⟩ f (.inl upd_same) (by rw [upd_same, hO]) (fun b hb => upd_ne hb) d v zd x2 dv⟩
    · refine .inr (.inr ⟨_, hvj, p, od, _, us, ws, rfl, hO, core _ od _ _ ⟨_, rfl⟩ hO (inn _ od _ ⟨_, rfl⟩ (.inr ⟨od, hO⟩) hO fun b hb => rfl) (fun ρ2 z2 E2 σ2 H2 e2 => ?_) (fun d zd v H2 x2 dv => ?_)⟩)
      · have f := fz _ od e2.fr
        exact sv.nx ρ2 z2 E2 σ2 _ (bn _ od _ H2 ⟨_, rfl⟩ f (.inr ⟨od, f⟩) (by rw [f, hO]) (fun b hb => rfl) e2)
      · have f := fz _ od x2.1
        exact br _ od _ H2 ⟨_, rfl⟩ f (.inr ⟨od, f⟩) (by rw [f, hO]) (fun b hb => rfl) d v zd x2 dv
  · exact h.elim
end
end DL

set_option Elab.async false
set_option linter.all false
set_option maxRecDepth 100000
set_option maxHeartbeats 4000000
/-! a tuple times 1: the tuple itself -/
namespace DL
open PySem L2 PySem.Spec PyProof.Rows
theorem tuple_mul1 (l : Addr) (items : Array Value) (n : Nat) (sl : Array (Option Value)) (dd : Option Addr) (u : Tok) :
    Meets (Builtin.«tuple.__mul__» ⟨[.ref l, .int 1 u], []⟩) (fun _ R s => s.heap.get? l = some { cls := .type "tuple", dict := dd, data := .seq items n, slots := sl } ∧ R (.ok (.ret (.ref l))) s) :=
  .of_wp fun prog w A R s h => by
    obtain ⟨hp, g, d, tk, os⟩ := s
    obtain ⟨hl, h⟩ := h
    have f1 := AutoSeq1.idx_int
    wp_walk using wpAny_loadPart' hl
    repeat (first
      | (refine wpAny_ite_false (by decide) ?_; wp_walk using wpAny_loadPart' hl)
      | (refine wpAny_ite_true (by simp) ?_; wp_walk using wpAny_loadPart' hl))
    exact ⟨_, rfl, h⟩
def rRep1 (K : PySem.W.Frag) : R2 := fun x y H Q => ∃ l xs, x = .ref l ∧ y = .int 1 ∧ SqT K H l xs ∧ Q (.ref l) H
section
variable {X : Cx}
theorem op_rep1 : OpR X (binaryOp .Mult) (rRep1 X.K) := by
  intro pins s σ H x y v u Q I rx ry h
  obtain ⟨l, xs, rfl, rfl, hT, q⟩ := h
  cases rx
  obtain ⟨t, rfl⟩ := ry
  obtain ⟨its, r, ⟨⟨cls, dd, data, sl⟩, ho, hc, n, hd⟩, hs⟩ := I.tuple hT
  simp only at hc hd
  subst hc hd
  refine wpAny_binaryOp_repeat_ref (T := "tuple") (U := "int") (by decide) ⟨_, ho, rfl⟩ (fun s' => typeIs_int s' 1 t) noFill_tuple_mul F.fills_int_mul F.slot_int_rmul repeat_tuple F.slot_int_index.lookup
    (call_meets F.slot_int_rmul (typeIs_int s 1 t) F.entry_int_rmul (F.args_int_rmul_2 _ _) (int_rmul_tuple 1 t l its.toArray n dd sl)
      ⟨ho, rfl, ⟨_, ho, rfl⟩, call_meets F.slot_tuple_mul ⟨_, ho, rfl⟩ F.entry_tuple_mul (F.args_tuple_mul_2 _ _) (tuple_mul1 l its.toArray n sl dd t) ⟨ho, ?_⟩⟩)
  exact ⟨.ref l, H, I, rfl, q⟩
/-- a tuple of something, so many times, once at least -/
def rMul1 : R2D := fun x y q => match x, y with
  | .tup xs, .int k => xs ≠ [] ∧ 1 ≤ k ∧ k ≤ 1000 ∧ xs.length ≤ 1000 ∧ q (.tup (List.replicate k.toNat xs).flatten)
  | _, _ => False
theorem o_mul1 : OpD X (binaryOp .Mult) rMul1 := by
  refine ⟨_, op_rep1.or op_repT, fun F E H x y u v q Q hF at_ hx hy hr k => ?_⟩
  cases x with
  | tup ds =>
    cases y with
    | int n =>
      obtain ⟨h0, h1, h2, h3, hr⟩ := hr
      have hx' : Dn F.K E H (.tup ds) u := hx
      obtain ⟨a, xs, rfl, t1, q1⟩ := hx
      by_cases c : n = 1
      · subst c
        refine .inl ⟨a, xs, rfl, hy, by rw [← hF]; exact t1.sq, ?_⟩
        have e : (List.replicate (1 : Int).toNat ds).flatten = ds := by simp
        rw [e] at hr
        exact k _ hr _ H (XExt.refl at_.so) hx'
      · refine .inr ⟨a, n, xs, rfl, hy, by rw [← hF]; exact t1.sq, fun z => h0 (by rw [z] at q1; exact nil_of_len q1), by omega, h2, by rw [q1.len]; exact h3, fun p hp => ?_⟩
        exact k _ hr _ _ (XExt.new at_.so hp) (at_.tup hp (q1.rep _))
    | _ => exact (show False from hr).elim
  | _ => cases y <;> exact (show False from hr).elim
end
end DL

set_option Elab.async false
set_option linter.all false
set_option maxRecDepth 100000
set_option maxHeartbeats 4000000
/-! a dict of the caller's that a def changes -/
namespace DL
open PySem L2
theorem DEnv.kn {F : Fx} {E : Addr → Prop} {σ : St} {H H' : Hp} {ρ : Rho} (e : DEnv F E σ H ρ) {n : Nat} {p : Addr} {ks vs ks' vs' : List D} {us zs : List V} (hj : ρ[n]? = some (some (.md ks vs))) (hv : σ[n]? = some (some (.ref p))) (x : FExt (fun b => b = p) H H')
    (dc : DcM H' p ks' us zs) (dk : DnA F.K E H' ks' us) (dv : DnA F.K E H' vs' zs) : DEnv F E σ H' (ρ.set n (some (.md ks' vs'))) := by
  obtain ⟨v, h1, h2⟩ := e.sl n _ hj
  rw [hv] at h1; cases h1
  obtain ⟨p', us0, zs0, ev, hE, hB, h0, dc0, _⟩ := h2
  cases ev
  have nW : ¬ F.W p := fun w => hB (e.wb p w)
  obtain ⟨o', hp'⟩ : ∃ o', H' p = some o' := by
    rcases dc with ⟨kvs, h, _⟩ | ⟨h, _⟩
    · exact ⟨_, h⟩
    · exact ⟨_, h⟩
  obtain ⟨o, hp⟩ := e.live p hE
  let Hm : Hp := fun b => if b = p then some o else H' b
  have hm : ∀ b, b ≠ p → Hm b = H' b := fun b hb => if_neg hb
  have hmp : Hm p = some o := if_pos rfl
  have k1 : ∀ b u, H b = some u → Hm b = some u := fun b u q => by
    by_cases c : b = p
    · subst c; rw [hp] at q; rw [← q]; exact hmp
    · rw [hm b c]; exact x b u q c
  have xm : XExt F H Hm := ⟨fun b u q _ => k1 b u q, e.so.of fun b u _ q => k1 b u q⟩
  have em := e.step xm
  have eq : upd Hm p o' = H' := by
    funext b
    by_cases c : b = p
    · subst c; rw [upd_same, hp']
    · rw [upd_ne c, hm b c]
  have := em.writeS (ob := o') (s1 := .md ks' vs') hj rfl hv fun fe => by
    rw [eq]
    exact ⟨us, zs, dc, dk, dv⟩
  rw [eq] at this
  exact this
abbrev RT2 := Rho → (Bool → Rho → Prop) → Prop
def W2 (F : Fx) (p : Addr) (b : Addr) : Prop := F.W b ∨ b = p
def liftT2 (F : Fx) (n : Nat) (p : Addr) (t : RT2) : TT := fun σ H Q => ∃ E ρ q, DEnv F E σ H ρ ∧ σ[n]? = some (some (.ref p)) ∧ t ρ q ∧ ∀ b ρ', q b ρ' → ∀ H', DEnv F E σ H' ρ' → FExt (W2 F p) H H' → Q b H'
def TD2 (X : Cx) (n : Nat) (e : Expr) (t : RT2) : Prop := ∀ (F : Fx) (p : Addr), F.K = X.K → PT X e (liftT2 F n p t)
def WD2 (X : Cx) (n : Nat) (e : Expr) (t : RT2) : Prop := ∀ (F : Fx) (p : Addr), F.K = X.K → PW X e (liftT2 F n p t)
section
variable {X : Cx} {n : Nat} {e a b c : Expr} {rest : List Expr} {t u : RT2} {pos p p' : Pos} {es : List Expr}
def t2 (t : RT) : RT2 := fun ρ q => t ρ fun b => q b ρ
theorem t2_of {t : RT} (h : TD X e t) : TD2 X n e (t2 t) := fun F p hF => (h F hF).imp fun σ H Q => by
  rintro ⟨E, ρ, q, env, hp, h, k⟩
  exact ⟨E, ρ, _, env, h, fun b hb H' x => k b ρ hb H' (env.step x) (x.1.weaken fun _ w => .inl w)⟩
def dnot2 (t : RT2) : RT2 := fun ρ q => t ρ fun b ρ' => q (!b) ρ'
theorem t2_not (ha : TD2 X n a t) : TD2 X n (.UnaryOp .Not a pos) (dnot2 t) := fun F p hF => (pt_not (ha F p hF)).imp fun σ H Q => by
  rintro ⟨E, ρ, q, env, hp, h, k⟩
  exact ⟨E, ρ, _, env, hp, h, fun b ρ' hb H1 e1 x1 => k _ _ hb H1 e1 x1⟩
def dor2 (t u : RT2) : RT2 := fun ρ q => t ρ fun b ρ' => if b = true then q true ρ' else u ρ' q
def dand2 (t u : RT2) : RT2 := fun ρ q => t ρ fun b ρ' => if b = true then u ρ' q else q false ρ'
theorem w2_and1 (ha : TD2 X n a t) : WD2 X n (.BoolOp .And [a] pos) t := fun F p hF => pw_and1 (ha F p hF)
theorem w2_or1 (ha : TD2 X n a t) : WD2 X n (.BoolOp .Or [a] pos) t := fun F p hF => pw_or1 (ha F p hF)
theorem w2_t (h : WD2 X n e t) : TD2 X n e t := fun F p hF => (h F p hF).pt
theorem w2_and (ha : TD2 X n a t) (hb : WD2 X n (.BoolOp .And (b :: rest) pos) u) : WD2 X n (.BoolOp .And (a :: b :: rest) pos) (dand2 t u) := fun F p hF => (pw_and (ha F p hF) (hb F p hF)).imp fun σ H Q => by
  rintro ⟨E, ρ, q, env, hp, h, k⟩
  refine ⟨E, ρ, _, env, hp, h, fun b ρ' hb H1 e1 x1 => ?_⟩
  cases b with
  | true =>
    rw [if_pos rfl] at hb ⊢
    exact ⟨E, ρ', q, e1, hp, hb, fun b ρ2 hb H2 e2 x2 => k b ρ2 hb H2 e2 (x1.trans x2)⟩
  | false =>
    rw [if_neg Bool.false_ne_true] at hb ⊢
    exact k _ _ hb H1 e1 x1
theorem w2_or (ha : TD2 X n a t) (hb : WD2 X n (.BoolOp .Or (b :: rest) pos) u) : WD2 X n (.BoolOp .Or (a :: b :: rest) pos) (dor2 t u) := fun F p hF => (pw_or (ha F p hF) (hb F p hF)).imp fun σ H Q => by
  rintro ⟨E, ρ, q, env, hp, h, k⟩
  refine ⟨E, ρ, _, env, hp, h, fun b ρ' hb H1 e1 x1 => ?_⟩
  cases b with
  | true =>
    rw [if_pos rfl] at hb ⊢
    exact k _ _ hb H1 e1 x1
  | false =>
    rw [if_neg Bool.false_ne_true] at hb ⊢
    exact ⟨E, ρ', q, e1, hp, hb, fun b ρ2 hb H2 e2 x2 => k b ρ2 hb H2 e2 (x1.trans x2)⟩
/-! ### the call -/
abbrev RFK := List D → List D → List D → (Bool → List D → List D → Prop) → Prop
def hid (H : Hp) (p : Addr) : Hp := fun b => if b = p then none else H b
def FK (K : PySem.W.Frag) (E : Addr → Prop) (H : Hp) (p : Addr) : Fx := ⟨K, fun b => E b ∧ b ≠ p, hid H p, none, []⟩
/-- the last value is a dict, which may be changed -/
def spK (K : PySem.W.Frag) (m : Nat) (tf : RFK) : Sp := fun vs H Q _ => ∃ (E : Addr → Prop) (p : Addr) (ws : List V) (ds ks vs0 : List D) (us zs : List V) (q : Bool → List D → List D → Prop),
  vs = ws ++ [.ref p] ∧ ws.length = m ∧ E p ∧ (∀ b, E b → ∃ o, H b = some o) ∧ DnA K E H ds ws ∧ DcM H p ks us zs ∧ DnA K E H ks us ∧ DnA K E H vs0 zs ∧ tf ds ks vs0 q ∧
  ∀ b ks' vs', q b ks' vs' → ∀ H' us' zs', FExt (fun b => b = p) H H' → DcM H' p ks' us' zs' → DnA K E H' ks' us' → DnA K E H' vs' zs' → Q (.bl b) H'
def liftLK (F : Fx) (n : Nat) (p : Addr) (t : RL) : TA := fun σ H Q => ∃ E ρ q, DEnv F E σ H ρ ∧ σ[n]? = some (some (.ref p)) ∧ t ρ q ∧ ∀ ds, q ds → ∀ vs H', XExt F H H' → DnA F.K E H' ds vs → Q (vs ++ [.ref p]) H'
def LKD (X : Cx) (n : Nat) (es : List Expr) (t : RL) : Prop := ∀ (F : Fx) (p : Addr), F.K = X.K → PA X es (liftLK F n p t)
theorem lk_end (ha : PE X e (tVar n)) (hs : starEach [e] X.env = (false, eval e X.env) :: starEach [] X.env := by rfl) : LKD X n [e] lnil := fun F p hF => (pa_cons ha pa_nil hs).imp fun σ H Q => by
  rintro ⟨E, ρ, q, env, hp, h, k⟩
  exact ⟨_, hp, k _ h [] H (XExt.refl env.so) rfl⟩
theorem lk_cons {ta : RE} {tl : RL} (ha : ED X e ta) (hr : LKD X n es tl) (hs : starEach (e :: es) X.env = (false, eval e X.env) :: starEach es X.env := by rfl) : LKD X n (e :: es) (lcons ta tl) := fun F p hF => (pa_cons (ha F hF) (hr F p hF) hs).imp fun σ H Q => by
  rintro ⟨E, ρ, q, env, hp, h, k⟩
  refine ⟨E, ρ, _, env, h, fun d hd v H1 x1 hv => ?_⟩
  have e1 := env.step x1
  exact ⟨E, ρ, _, e1, hp, hd, fun ds hds vs H2 x2 hvs => k _ hds (v :: vs) H2 (x1.trans x2) ⟨v, vs, rfl, e1.dn x2 hv, hvs⟩⟩
def tcallK (tf : RFK) (n : Nat) (tl : RL) : RT2 := fun ρ q => tl ρ fun ds => match ρ[n]? with
  | some (some (.md ks vs)) => tf ds ks vs fun b ks' vs' => q b (ρ.set n (some (.md ks' vs')))
  | _ => False
theorem t2_call {k m : Nat} {f : Addr} {fd : FuncData} {ps : List Str} {tf : RFK} {tl : RL} {x : Str} (G : FnOk X.prog X.w X.K X.mg X.base CX0 k f fd ps (spK X.K m tf)) (hn : ∀ ds ks vs q, tf ds ks vs q → ds.length = m) (hr : Room k X.A) (hg : Gl X x) (hm : X.mg x = some (.ref f)) (hk : PySem.W.keepIn X.K (.ref f) = true)
    (hb : Binds X.K fd ps []) (ha : LKD X n (e :: es) tl) (hdb : (x == ("__debug__" : Str)) = false := by decide) (he : starEach (e :: es) X.env = (false, eval e X.env) :: starEach es X.env := by rfl) (hpl : (backTo pos (starEach es X.env)).any (·.1) = false := by rfl)
    (hw : ∀ whole, isTrue (.Call (.Name x p) (e :: es) [] pos) X.env whole = (do let v ← whole; standAt (Expr.pos (.Call (.Name x p) (e :: es) [] pos)); holding [v] (truthy v)) := by intro _; rfl) :
    TD2 X n (.Call (.Name x p) (e :: es) [] pos) (tcallK tf n tl) := fun F pa hF =>
  (pt_val (pe_call G hr hg hm hk hb .nil pass0 (ha F pa hF) hdb he hpl) hw).imp fun σ H Q => by
  rintro ⟨E, ρ, q, env, hp, h, k⟩
  refine ⟨E, ρ, _, env, hp, h, fun ds hds vs H1 x1 hvs => ?_⟩
  have e1 := env.step x1
  show spK X.K m tf ((vs ++ [.ref pa]) ++ []) H1 _ E0
  rw [List.append_nil]
  split at hds
  · rename_i ks vs0 hj
    obtain ⟨v, h1, p', us, zs, ev, hE, hB, h0, dc, dk, dv⟩ := e1.sl n _ hj
    rw [hp] at h1; cases h1
    cases ev
    refine ⟨E, pa, vs, ds, ks, vs0, us, zs, _, rfl, by rw [hvs.len]; exact hn _ _ _ _ hds, hE, e1.live, hF ▸ hvs, dc, hF ▸ dk, hF ▸ dv, hds, fun b ks' vs' hq H' us' zs' x2 dc' dk' dv' => ⟨b, rfl, k b _ hq H' (e1.kn hj hp x2 dc' (hF ▸ dk') (hF ▸ dv')) fun c o qc w => ?_⟩⟩
    exact x2 c o (x1.1 c o qc fun z => w (.inl z)) fun z => w (.inr z)
  · exact hds.elim
/-- if, with such a test -/
def sif2 (c : RT2) (t u : RS) : RS := fun Z ρ => c ρ fun b ρ' => if b = true then t Z ρ' else u Z ρ'
theorem s_if2 {tc : RT2} {t u : RS} {sa sb : List Stmt} (hc : TD2 X n c tc) (ha : SsD X sa t) (hb : SsD X sb u) : SD X (.If c sa sb pos) (fun Z ρ => (∃ ks vs, ρ[n]? = some (some (.md ks vs))) ∧ sif2 tc t u Z ρ) := fun F hF => by
  refine (ps_if (tc := fun σ H Q => ∃ p, liftT2 F n p tc σ H Q) ⟨fun pins s σ H Q I ⟨p, q⟩ => (hc F p hF).run pins s σ H Q I q⟩ (ha F hF) (hb F hF)).imp fun D_ σ H => ?_
  rintro ⟨E, ρ, Z, env, ⟨⟨ks, vs, hj⟩, h⟩, sv⟩
  obtain ⟨v, h1, p, us, zs, ev, _⟩ := env.sl n _ hj
  cases ev
  refine ⟨p, E, ρ, _, env, h1, h, fun b ρ' hb H1 e1 x1 => ?_⟩
  cases b with
  | true =>
    rw [if_pos rfl] at hb ⊢
    exact ⟨E, ρ', Z, e1, hb, sv⟩
  | false =>
    rw [if_neg Bool.false_ne_true] at hb ⊢
    exact ⟨E, ρ', Z, e1, hb, sv⟩
end
end DL

set_option Elab.async false
set_option linter.all false
set_option maxRecDepth 100000
set_option maxHeartbeats 4000000
/-! the body of such a def -/
namespace DL
open PySem L2
structure DE2 where
  nx : Rho → Prop
  rt : D → Rho → Prop
abbrev RS2 := DE2 → Rho → Prop
structure Serves2 (F : Fx) (n : Nat) (p : Addr) (Z : DE2) (D_ : Ends) : Prop where
  nx : ∀ ρ, Z.nx ρ → ∀ E σ H, DEnv F E σ H ρ → σ[n]? = some (some (.ref p)) → D_.nx σ H
  rt : ∀ d ρ, Z.rt d ρ → ∀ E σ H v, DEnv F E σ H ρ → σ[n]? = some (some (.ref p)) → Dn F.K E H d v → D_.rt v H
def liftS2 (F : Fx) (n : Nat) (p : Addr) (t : RS2) : TS := fun D_ σ H => ∃ E ρ Z, DEnv F E σ H ρ ∧ σ[n]? = some (some (.ref p)) ∧ t Z ρ ∧ Serves2 F n p Z D_
def SD2 (X : Cx) (n : Nat) (s : Stmt) (t : RS2) : Prop := ∀ (F : Fx) (p : Addr), F.K = X.K → F.src = none → PS X s (liftS2 F n p t)
def SsD2 (X : Cx) (n : Nat) (s : List Stmt) (t : RS2) : Prop := ∀ (F : Fx) (p : Addr), F.K = X.K → F.src = none → PSs X s (liftS2 F n p t)
section
variable {X : Cx} {n : Nat} {e c tg iter elt value o i_ : Expr} {t u : RS2} {pos pos' : Pos} {st : Stmt} {rest : List Stmt} {ta tk tv te : RE} {ifs : List Expr} {w : RL}
def snext2 : RS2 := fun Z ρ => Z.nx ρ
def sseq2 (t u : RS2) : RS2 := fun Z ρ => t ⟨u Z, Z.rt⟩ ρ
theorem s2_nil : SsD2 X n [] snext2 := fun F p hF hs => pss_nil.imp fun D_ σ H => by
  rintro ⟨E, ρ, Z, env, hp, h, sv⟩
  exact sv.nx _ h E σ H env hp
theorem s2_cons (h1 : SD2 X n st t) (h2 : SsD2 X n rest u) : SsD2 X n (st :: rest) (sseq2 t u) := fun F p hF hs => (pss_cons (h1 F p hF hs) (h2 F p hF hs)).imp fun D_ σ H => by
  rintro ⟨E, ρ, Z, env, hp, h, sv⟩
  exact ⟨E, ρ, _, env, hp, h, ⟨fun ρ' h' E' σ' H' env' hp' => ⟨E', ρ', Z, env', hp', h', sv⟩, sv.rt⟩⟩
theorem s2_one (h1 : SD2 X n st t) : SsD2 X n [st] t := fun F p hF hs => pss_one (h1 F p hF hs)
def sret2 (ta : RE) : RS2 := fun Z ρ => ta ρ fun d => Z.rt d ρ
theorem s2_ret (he : ED X e ta) : SD2 X n (.Return (some e) pos) (sret2 ta) := fun F p hF hs => (ps_ret (he F hF)).imp fun D_ σ H => by
  rintro ⟨E, ρ, Z, env, hp, h, sv⟩
  exact ⟨E, ρ, _, env, h, fun d hd v H1 x1 hv => sv.rt d ρ hd E σ H1 v (env.step x1) hp hv⟩
def sif22 (c : RT) (t u : RS2) : RS2 := fun Z ρ => c ρ fun b => if b = true then t Z ρ else u Z ρ
theorem s2_if {tc : RT} {sa sb : List Stmt} (hc : TD X c tc) (ha : SsD2 X n sa t) (hb : SsD2 X n sb u) : SD2 X n (.If c sa sb pos) (sif22 tc t u) := fun F p hF hs => (ps_if (hc F hF) (ha F p hF hs) (hb F p hF hs)).imp fun D_ σ H => by
  rintro ⟨E, ρ, Z, env, hp, h, sv⟩
  refine ⟨E, ρ, _, env, h, fun b hb H1 x1 => ?_⟩
  cases b with
  | true =>
    rw [if_pos rfl] at hb ⊢
    exact ⟨E, ρ, Z, env.step x1, hp, hb, sv⟩
  | false =>
    rw [if_neg Bool.false_ne_true] at hb ⊢
    exact ⟨E, ρ, Z, env.step x1, hp, hb, sv⟩
def sset2 (i : Nat) (te : RE) : RS2 := fun Z ρ => te ρ fun d => Z.nx (ρ.set i (some (.im d)))
theorem s2_set {i : Nat} {x : Str} (hin : i ≠ n) (hN : X.N.Nodup) (hi : X.N[i]? = some x) (hx : Loc X.env.scope x) (he : ED X e ta) (hs : swapsWith e (some (.Name x pos')) pos.line X.env = pure false := by rfl) (hf : X.fn x = true ∨ X.env.scope.names.lookup x = some .local := by first | exact .inl rfl | exact .inr rfl | assumption) :
    SD2 X n (.Assign [.Name x pos'] e pos) (sset2 i ta) := fun F p hF hsr => (ps_set hN hi hx (he F hF) hs hf).imp fun D_ σ H => by
  rintro ⟨E, ρ, Z, env, hp, h, sv⟩
  refine ⟨E, ρ, _, env, h, fun d hd v H1 x1 hv => ?_⟩
  exact sv.nx _ hd E _ H1 ((env.step x1).set hv) (by rw [List.getElem?_set_ne hin]; exact hp)
def sput2 (j : Nat) (tk tv : RE) : RS2 := fun Z ρ => tv ρ fun y => match ρ[j]? with
  | some (some (.md ks vs)) => tk ρ fun x => kok ks x = true ∧ vs.length = ks.length ∧ ks.length < sizeLine ∧ Z.nx (ρ.set j (some (.md (kputK ks x) (kputV ks vs x y))))
  | _ => False
theorem s2_put {k : Nat} (hr : Room k X.A) (ho : PE X o (tVar n)) (hi : ED X i_ tk) (hv : ED X value tv) (hs : swapsWith value (some (.Subscript o i_ pos')) pos.line X.env = pure false := by rfl) :
    SD2 X n (.Assign [.Subscript o i_ pos'] value pos) (sput2 n tk tv) := fun F pa hF hsr => by
  refine (ps_putO hr ho (hi F hF) (hv F hF) hs).imp fun D_ σ H => ?_
  rintro ⟨E, ρ, Z, env, hpa, h, sv⟩
  refine ⟨E, ρ, _, env, h, fun d hd w H1 x1 hw => ?_⟩
  have e1 := env.step x1
  split at hd
  · rename_i ks vs hj
    obtain ⟨v, hv', p, us, ws, ev, hE, hB, h0, dc, dk, dv⟩ := e1.sl n _ hj
    subst ev
    refine ⟨_, hv', E, ρ, _, e1, hd, fun x hx y H2 x2 hy => ?_⟩
    have e2 := e1.step x2
    obtain ⟨ok, hl, hlt, hnx⟩ := hx
    have nW : ¬ F.W p := fun w => hB (env.wb p w)
    have dc2 : DcM H2 p ks us ws := dc.at fun o q => x2.1 p o q nW
    have dk2 := e1.dna x2 dk
    have dv2 := e1.dna x2 dv
    refine ⟨p, ks, us, ws, E, x, rfl, dc2, hF ▸ dk2, hF ▸ hy, ok, hlt, fun ob g => ?_⟩
    refine sv.nx _ hnx E σ _ (e2.writeS hj rfl hv' fun fe => ⟨putU ks x us y, putW ks x ws w, g _ upd_same, ?_, ?_⟩) hpa
    · exact DnA.ext fe _ _ (put_dna dk2 hy)
    · exact DnA.ext fe _ _ (putv_dna dv2 (e1.dn x2 hw))
  · exact hd.elim
def fordo2 (T : Tg) (tb : RS2) (Z : DE2) : List D → Rho → Prop
  | [], ρ => Z.nx ρ
  | d :: ds, ρ => match T.put d ρ with
    | some ρ' => tb ⟨fordo2 T tb Z ds, Z.rt⟩ ρ'
    | none => False
def sfor2 (tl : RL) (T : Tg) (tb : RS2) : RS2 := fun Z ρ => tl ρ fun ds => fordo2 T tb Z ds ρ
theorem s2_for {tl : RL} {T : Tg} {tb : RS2} {body : List Stmt} (hT : n ∉ T.slots) (hp : PassesOwn (model X.prog X.w) X.A X.env X.xe) (hc : X.calm = true) (hi : ID X tg iter tl) (hg : GD X tg T) (hb : SsD2 X n body tb)
    (hs : ∀ x, foldedSetIterable iter X.env x = pure x := by intro _; rfl) : SD2 X n (.For tg iter body [] pos) (sfor2 tl T tb) := fun F pa hF hsr => by
  have hb' : PSs X body (fun D_ σ H => ∃ v d, liftS2 (F.hold v d) n pa tb D_ σ H) := ⟨fun pins s σ H D_ I ⟨v, d, q⟩ => (hb (F.hold v d) pa hF hsr).run pins s σ H D_ I q⟩
  refine (ps_for hp hc (hi F hF) hg hb' hs).imp fun D_ σ H => ?_
  rintro ⟨E, ρ, Z, env, hpa, h, sv⟩
  refine ⟨E, ρ, _, env, h, fun ds hds J H1 hv hd x1 hdn wk => ?_⟩
  have W := wk (F.hold hv hd) rfl rfl
  refine ⟨fun i m σ H => m = ds.length - i ∧ i ≤ ds.length ∧ ∃ E ρ, DEnv (F.hold hv hd) E σ H ρ ∧ σ[n]? = some (some (.ref pa)) ∧ fordo2 T tb Z (ds.drop i) ρ, ⟨ds.length, rfl, Nat.zero_le _, E, ρ, (env.step x1).hold hdn, hpa, hds⟩, ?_⟩
  rintro i m σ H ⟨rfl, hi, E, ρ, env, hpa, hr⟩
  obtain ⟨w1, w2⟩ := W E H env.at_ env.heldAt
  by_cases hlt : i < ds.length
  · have hget : ds[i]? = some ds[i] := List.getElem?_eq_getElem hlt
    rw [List.drop_eq_getElem_cons hlt] at hr
    obtain ⟨hgo, hy⟩ := w1 i _ hget
    unfold fordo2 at hr
    split at hr
    · rename_i ρ' hput
      refine .inr ⟨hgo, fun σ' H' => ∃ E ρ, DEnv (F.hold hv hd) E σ' H' ρ ∧ σ'[n]? = some (some (.ref pa)) ∧ fordo2 T tb Z (ds.drop (i + 1)) ρ, fun σ' H' q => ⟨_, Nat.sub_lt_sub_left hlt (Nat.lt_succ_self i), rfl, hlt, q⟩, fun x H' hx => ?_⟩
      obtain ⟨sm, dx⟩ := hy x H' hx
      have e2 := env.step (XExt.same env.so sm)
      rw [← hF]
      refine Tg.sem (F := F.hold hv hd) T e2 dx hput fun σ2 e3 sb => ?_
      have hpa2 : σ2[n]? = some (some (.ref pa)) := by rw [sb.2 n hT]; exact hpa
      refine ⟨hv, hd, E, ρ', _, e3, hpa2, hr, ⟨fun ρ2 h2 E2 σ2 H2 env2 hp2 => ⟨E2, ρ2, env2, hp2, h2⟩, fun d ρ2 h2 E2 σ2 H2 v env2 hp2 dv => sv.rt d ρ2 h2 E2 σ2 H2 v env2.drop hp2 dv⟩⟩
    · exact hr.elim
  · have hil : i = ds.length := by omega
    rw [hil, List.drop_length] at hr
    exact .inl ⟨w2 i (by omega), sv.nx _ hr E σ H env.drop hpa⟩
end
/-! ### a def -/
def fnK (m l : Nat) (t : RS2) : RFK := fun ds ks vs q => ds.length = m ∧ t ⟨fun _ => False, fun d ρ => ∃ b ks' vs', d = .bl b ∧ ρ[m]? = some (some (.md ks' vs')) ∧ q b ks' vs'⟩ (ds.map (fun d => some (Sl.im d)) ++ some (.md ks vs) :: List.replicate l none)
theorem fnK_len {m l : Nat} {t : RS2} : ∀ ds ks vs q, fnK m l t ds ks vs q → ds.length = m := fun _ _ _ _ h => h.1
theorem fk_w {K : PySem.W.Frag} {E : Addr → Prop} {H : Hp} {p b : Addr} : ¬ (FK K E H p).W b := by
  rintro ⟨a, c, h, _⟩
  cases h
theorem start_k {K : PySem.W.Frag} {E : Addr → Prop} {H : Hp} {p : Addr} {ws : List V} {ds ks vs : List D} {us zs : List V} {N : List Str} (hE : E p) (hl : ∀ b, E b → ∃ o, H b = some o) (ha : DnA K E H ds ws) (dc : DcM H p ks us zs) (dk : DnA K E H ks us) (dv : DnA K E H vs zs) :
    DEnv (FK K E H p) E (L2.start N (ws ++ [.ref p])) H (ds.map (fun d => some (Sl.im d)) ++ some (.md ks vs) :: List.replicate (N.length - (ds.length + 1)) none) := by
  have hlen : ws.length = ds.length := ha.len
  have hst : L2.start N (ws ++ [.ref p]) = ws.map some ++ some (.ref p) :: List.replicate (N.length - (ds.length + 1)) none := by
    unfold L2.start
    rw [List.map_append, List.length_append, List.length_singleton, hlen, List.append_assoc]
    rfl
  have hown : ∀ (i : Nat) s, (ds.map (fun d => some (Sl.im d)) ++ some (.md ks vs) :: List.replicate (N.length - (ds.length + 1)) none)[i]? = some (some s) → (∃ d, ds[i]? = some d ∧ s = .im d) ∨ (i = ds.length ∧ s = .md ks vs) := fun i s hs => by
    rw [List.getElem?_append] at hs
    split at hs
    · rw [List.getElem?_map] at hs
      cases q : ds[i]? with
      | none => rw [q] at hs; cases hs
      | some d => rw [q] at hs; cases hs; exact .inl ⟨d, rfl, rfl⟩
    · rename_i hi
      rw [List.length_map] at hs hi
      rcases Nat.lt_or_ge ds.length i with c | c
      · obtain ⟨j, rfl⟩ : ∃ j, i = ds.length + 1 + j := ⟨i - ds.length - 1, by omega⟩
        rw [show ds.length + 1 + j - ds.length = j + 1 by omega, List.getElem?_cons_succ, List.getElem?_replicate] at hs
        split at hs <;> cases hs
      · have : i = ds.length := by omega
        subst this
        rw [Nat.sub_self, List.getElem?_cons_zero] at hs
        cases hs
        exact .inr ⟨rfl, rfl⟩
  exact {
    fr := fun b o q _ => by
      have q' : hid H p b = some o := q
      unfold hid at q'
      split at q'
      · cases q'
      · exact q'
    wb := fun b w => (fk_w w).elim
    sub := fun b hb => hb.1
    live := hl
    so := fun a c h => by cases h
    len := by
      rw [hst, List.length_append, List.length_append, List.length_map, List.length_map, List.length_cons, List.length_cons, List.length_replicate, List.length_replicate, hlen]
    hl := fun q hq => by cases hq
    sl := fun i s hs => by
      rw [hst]
      rcases hown i s hs with ⟨d, hd, rfl⟩ | ⟨rfl, rfl⟩
      · obtain ⟨x, hx, dx⟩ := ha.get hd
        refine ⟨x, ?_, dx⟩
        have hi : i < ws.length := (List.getElem?_eq_some_iff.mp hx).1
        rw [List.getElem?_append_left (by rw [List.length_map]; exact hi), List.getElem?_map, hx]
        rfl
      · refine ⟨.ref p, ?_, p, us, zs, rfl, hE, fun z => z.2 rfl, ?_, dc, dk, dv⟩
        · rw [List.getElem?_append_right (by rw [List.length_map]; omega), List.length_map, hlen, Nat.sub_self]
          rfl
        · show hid H p p = none
          unfold hid
          rw [if_pos rfl]
    inj := fun i j s t v hi hj os ot _ _ => by
      rcases hown i s hi with ⟨d, _, rfl⟩ | ⟨rfl, _⟩
      · cases os
      · rcases hown j t hj with ⟨d, _, rfl⟩ | ⟨rfl, _⟩
        · cases ot
        · rfl }
theorem fn_okK {P : Program} {w : World} {K : PySem.W.Frag} {mg : Str → Option Value} {base : Heap} {x qual : Str} {st : Stmt} {f : Addr} {fd : FuncData} {N ps : List Str} {k m : Nat} {t : RS2} (Fn : Fun K x qual st f fd) (S : FnScope N ps (defScope st)) (hm : ps.length = m + 1)
    (hb : ∀ (cdv : Value) (A : Around) (outer : List Env) (s : Shared) (H : Hp) (E : XK), Room k (A.deeper (PyProof.Rows.envOfC qual (defScope st) s.heap.objs.size f cdv)) → SsD2 (cxOf CX0 P w K mg base N qual (defScope st) f cdv A outer s H E).nox m (defBody st) t) :
    FnOk P w K mg base CX0 (k + 1) f fd ps (spK K m (fnK m (N.length - (m + 1)) t)) := by
  refine Fn.ok S (fun vs H Q E h => ?_) (fun cdv A outer s H vs Q E hr h => ?_)
  · obtain ⟨E, p, ws, ds, ks, vs0, us, zs, q, rfl, hl, _⟩ := h
    rw [List.length_append, List.length_singleton, hl, hm]
  · obtain ⟨E1, p, ws, ds, ks, vs0, us, zs, q, rfl, hl, hE, hlv, ha, dc, dk, dv, ⟨hn, ht⟩, kk⟩ := h
    have env := start_k (N := N) hE hlv ha dc dk dv
    rw [hn] at env
    refine ⟨_, hb cdv A outer s H E hr (FK K E1 H p) p rfl rfl, E1, _, _, env, ?_, ht, ⟨fun ρ z => z.elim, fun d ρ hd E' σ' H' v env' hp' hv => ?_⟩⟩
    · have hst : L2.start N (ws ++ [.ref p]) = ws.map some ++ some (.ref p) :: List.replicate (N.length - (ws.length + 1)) none := by
        unfold L2.start
        rw [List.map_append, List.length_append, List.length_singleton, List.append_assoc]
        rfl
      rw [hst, List.getElem?_append_right (by rw [List.length_map]; omega), List.length_map, hl, Nat.sub_self]
      rfl
    · obtain ⟨b, ks', vs', rfl, hj, hq⟩ := hd
      obtain ⟨v', h1, p', us', zs', ev, hE', hB', h0', dc', dk', dv'⟩ := env'.sl m _ hj
      rw [hp'] at h1; cases h1
      cases ev
      have less : ∀ c, E1 c → E' c := fun c hc => by
        by_cases z : c = p
        · subst z; exact hE'
        · exact env'.sub c ⟨hc, z⟩
      have hv' : v = .bl b := hv
      subst hv'
      refine kk b ks' vs' hq H' us' zs' (fun c o qc nc => ?_) dc' (DnA.less less _ _ dk') (DnA.less less _ _ dv')
      refine env'.fr c o ?_ fk_w
      show hid H p c = some o
      unfold hid
      rw [if_neg nc]
      exact qc
end DL

set_option Elab.async false
set_option linter.all false
set_option maxRecDepth 100000
set_option maxHeartbeats 4000000
/-! a comprehension whose test changes the dict -/
namespace DL
open PySem L2
theorem wipeR_get : ∀ {ρ : Rho} {vs : List Nat} {j : Nat}, j ∉ vs → (wipeR ρ vs)[j]? = ρ[j]?
  | ρ, [], j, _ => rfl
  | ρ, v :: vs, j, h => by
    rw [wipeR, List.getElem?_set_ne (fun z => h (by rw [z]; exact List.mem_cons_self ..))]
    exact wipeR_get fun z => h (List.mem_cons_of_mem _ z)
theorem set_id {α : Type} {l : List α} {j : Nat} {a : α} (h : l[j]? = some a) : l.set j a = l := by
  apply List.ext_getElem?
  intro i
  by_cases c : i = j
  · subst c
    rw [List.getElem?_set_self (List.getElem?_eq_some_iff.mp h).1, h]
  · rw [List.getElem?_set_ne (Ne.symm c)]
section
variable {X : Cx} {n : Nat} {e c tg iter elt : Expr} {pos : Pos} {te : RE} {ifs : List Expr} {w : RL}
def lcdoK (T : Tg) (tt : RT2) (te : RE) (n : Nat) (ρ : Rho) : List D → List D → List D → List D → (List D → List D → List D → Prop) → Prop
  | [], acc, ks, vs, q => q acc ks vs
  | d :: ds, acc, ks, vs, q => match T.put d (ρ.set n (some (.md ks vs))) with
    | some ρ' => tt ρ' fun b ρ2 => ∃ ks' vs', ρ2 = ρ'.set n (some (.md ks' vs')) ∧ (if b = true then te ρ2 fun y => acc.length < sizeLine ∧ lcdoK T tt te n ρ ds (acc ++ [y]) ks' vs' q else lcdoK T tt te n ρ ds acc ks' vs' q)
    | none => False
def TsD2 (X : Cx) (n : Nat) (ifs : List Expr) (t : RT2) : Prop := ∀ (F : Fx) (p : Addr), F.K = X.K → PTs X ifs (liftT2 F n p t)
theorem ts2_one {t : RT2} (h : TD2 X n c t) : TsD2 X n [c] t := fun F p hF => pts_one (h F p hF)
def wlcK (w : RL) (vs : List Nat) (T : Tg) (tt : RT2) (te : RE) (n : Nat) (ρ : Rho) (q : List D → List D → List D → Prop) : Prop := w ρ fun ds => match ρ[n]? with
  | some (some (.md ks vs0)) => lcdoK T tt te n (wipeR ρ vs) ds [] ks vs0 q
  | _ => False
theorem lcK_ {F : Fx} (hsr : F.src = none) {pa : Addr} {vs : List Nat} {T : Tg} {tt : RT2} (hT : ∀ i ∈ T.slots, i ∈ vs) (hn : n ∉ vs) (σ : St) (H : Hp) (Q : VK)
    (h : ∃ E ρ q, DEnv F E σ H ρ ∧ σ[n]? = some (some (.ref pa)) ∧ wlcK w vs T tt te n ρ q ∧ ∀ acc ks' vs', q acc ks' vs' → ∀ D xs H', DEnv F E σ H' (ρ.set n (some (.md ks' vs'))) → ¬ E D → H' D = some (.lst xs) → DnA F.K E H' acc xs → Q (.ref D) H') :
    tLc (liftI F w) (T.g F.K) (fun σ H Q => ∃ v d, liftT2 (F.hold v d) n pa tt σ H Q) (fun σ H Q => ∃ v d, liftE (F.hold v d) te σ H Q) vs σ H Q := by
  obtain ⟨E, ρ, q, env, hpa, h, k⟩ := h
  have noW : ∀ b, ¬ F.W b := fun b => by
    rintro ⟨a, c, z, _⟩
    rw [hsr] at z; cases z
  have hnT : n ∉ T.slots := fun z => hn (hT n z)
  refine ⟨E, ρ, _, env, h, fun ds hds J H1 hv hd x1 hdn wk D hD => ?_⟩
  split at hds
  · rename_i ks vs0 hj
    have W := wk (F.hold hv hd) rfl rfl
    have e1 := env.step x1
    have e1h := e1.hold hdn
    have xD : XExt (F.hold hv hd) H1 (upd H1 D (.lst [])) := XExt.new e1h.so hD
    have e2 : DEnv (F.hold hv hd) (plus E D) σ (upd H1 D (.lst [])) ρ := e1h.shut xD hD ⟨_, upd_same⟩
    have nED : ¬ E D := e1.nE hD
    have nBD : ¬ F.B D := fun hB => nED (e1.sub D hB)
    have h0D : F.H0 D = none := e1.h0 hD
    obtain ⟨v1, g1, p1, us1, zs1, ev1, hEp, _⟩ := e1.sl n _ hj
    rw [hpa] at g1; cases g1
    cases ev1
    have nDp : D ≠ pa := fun z => nED (z ▸ hEp)
    have hpw : (L2.wipe σ vs)[n]? = some (some (.ref pa)) := by rw [wipe_get, if_neg hn]; exact hpa
    have hjw : (wipeR ρ vs)[n]? = some (some (.md ks vs0)) := by rw [wipeR_get hn]; exact hj
    have hlw : n < (wipeR ρ vs).length := (List.getElem?_eq_some_iff.mp hjw).1
    have noSlot0 : ∀ (j : Nat) s, (wipeR ρ vs)[j]? = some (some s) → s.own = true → (L2.wipe σ vs)[j]? ≠ some (some (.ref D)) := fun j s hs os q => nED ((e1.wipe vs).ownIn j s D hs os q)
    have noSlot : ∀ ks' vs' (j : Nat) s, ((wipeR ρ vs).set n (some (.md ks' vs')))[j]? = some (some s) → s.own = true → (L2.wipe σ vs)[j]? ≠ some (some (.ref D)) := fun ks' vs' j s hs os q => by
      rcases set_get hs with ⟨rfl, _, _⟩ | ⟨_, hs⟩
      · rw [hpw] at q
        cases q
        exact nDp rfl
      · exact noSlot0 j s hs os q
    refine ⟨fun i m H => m = ds.length - i ∧ i ≤ ds.length ∧ FExt (fun b => b = pa) H1 H ∧ ∃ ks vs0, DEnv (F.hold hv hd) (plus E D) (L2.wipe σ vs) H ((wipeR ρ vs).set n (some (.md ks vs0))) ∧ ∃ acc xs, H D = some (.lst xs) ∧ DnA F.K (plus E D) H acc xs ∧ lcdoK T tt te n (wipeR ρ vs) (ds.drop i) acc ks vs0 q,
      ⟨ds.length, rfl, Nat.zero_le _, fun b o qb _ => xD.1 b o qb (noW b), ks, vs0, by rw [set_id hjw]; exact e2.wipe vs, [], [], upd_same, rfl, hds⟩, ?_⟩
    rintro i m H ⟨rfl, hi, fx, ks, vs0, env, acc, xs, hDx, hacc, hr⟩
    obtain ⟨w1, w2⟩ := W (plus E D) H env.at_ env.heldAt
    have hjb : ((wipeR ρ vs).set n (some (.md ks vs0)))[n]? = some (some (.md ks vs0)) := List.getElem?_set_self hlw
    by_cases hlt : i < ds.length
    · have hget : ds[i]? = some ds[i] := List.getElem?_eq_getElem hlt
      rw [List.drop_eq_getElem_cons hlt] at hr
      obtain ⟨hgo, hy⟩ := w1 i _ hget
      unfold lcdoK at hr
      split at hr
      · rename_i ρ' hput
        refine .inr ⟨hgo, fun H' => FExt (fun b => b = pa) H1 H' ∧ ∃ ks vs0, DEnv (F.hold hv hd) (plus E D) (L2.wipe σ vs) H' ((wipeR ρ vs).set n (some (.md ks vs0))) ∧ ∃ acc xs, H' D = some (.lst xs) ∧ DnA F.K (plus E D) H' acc xs ∧ lcdoK T tt te n (wipeR ρ vs) (ds.drop (i + 1)) acc ks vs0 q,
          fun H' z => ⟨_, Nat.sub_lt_sub_left hlt (Nat.lt_succ_self i), rfl, hlt, z⟩, fun x H2 hx => ?_⟩
        obtain ⟨sm, dx⟩ := hy x H2 hx
        have x2 : XExt (F.hold hv hd) H H2 := XExt.same env.so sm
        have env2 := env.step x2
        refine Tg.sem (F := F.hold hv hd) T env2 dx hput fun σ2 e3 sb => ⟨wipe_same sb hT, ?_⟩
        have hpa2 : σ2[n]? = some (some (.ref pa)) := by rw [sb.2 n hnT]; exact hpw
        refine ⟨hv, hd, plus E D, ρ', _, e3, hpa2, hr, fun b ρ2 hb H3 e4 x3 => ?_⟩
        obtain ⟨ks', vs', eρ, hb⟩ := hb
        have hl' : n < ρ'.length := by rw [← e3.len]; exact (List.getElem?_eq_some_iff.mp hpa2).1
        have hj4 : ρ2[n]? = some (some (.md ks' vs')) := by rw [eρ]; exact List.getElem?_set_self hl'
        obtain ⟨v4, g4, p4, us4, zs4, ev4, _, _, _, dc4, dk4, dv4⟩ := e4.sl n _ hj4
        rw [hpa2] at g4; cases g4
        cases ev4
        have x23 : FExt (fun b => b = pa) H2 H3 := fun b o qb nb => x3 b o qb fun z => z.elim (noW b) nb
        have env3 := env2.kn hjb hpw x23 dc4 dk4 dv4
        rw [List.set_set] at env3
        have fx3 : FExt (fun b => b = pa) H1 H3 := fun b o qb nb => x23 b o (x2.1 b o (fx b o qb nb) (noW b)) nb
        have hD3 : H3 D = some (.lst xs) := x23 D _ (x2.1 D _ hDx (noW D)) nDp
        have fe3 : FExt (plus E D) H H3 := fun b o qb nb => x23 b o (x2.1 b o qb (noW b)) fun z => nb (.inl (z ▸ hEp))
        have hacc3 : DnA F.K (plus E D) H3 acc xs := DnA.ext fe3 _ _ hacc
        cases b with
        | true =>
          rw [if_pos rfl] at hb
          show if true = true then _ else _
          rw [if_pos rfl]
          refine ⟨hv, hd, plus E D, ρ2, _, e4, hb, fun y hy v H4 x4 hvy => ?_⟩
          have hD4 : H4 D = some (.lst xs) := x4.1 D _ hD3 (noW D)
          have env4 := env3.step x4
          have hacc4 : DnA F.K (plus E D) H4 acc xs := env3.dna x4 hacc3
          refine ⟨xs, hD4, by rw [hacc.len]; exact hy.1, ?_, ks', vs', ?_, acc ++ [y], xs ++ [v], upd_same, ?_, hy.2⟩
          · exact fun b u qb nb => by rw [upd_ne (ne_of_none qb hD)]; exact x4.1 b u (fx3 b u qb nb) (noW b)
          · exact env4.poke (.inr rfl) nBD h0D (noSlot ks' vs')
          · have fe : FExt (plus E D) H4 (upd H4 D (.lst (xs ++ [v]))) := fun b u q hb => by rw [upd_ne (fun z : b = D => hb (.inr z))]; exact q
            exact DnA.ext fe _ _ (hacc4.app (DnA.one hvy))
        | false =>
          rw [if_neg Bool.false_ne_true] at hb
          show if false = true then _ else _
          rw [if_neg Bool.false_ne_true]
          exact ⟨fx3, ks', vs', env3, acc, xs, hD3, hacc3, hb⟩
      · exact hr.elim
    · have hil : i = ds.length := by omega
      rw [hil, List.drop_length] at hr
      obtain ⟨v5, g5, p5, us5, zs5, ev5, _, _, _, dc5, dk5, dv5⟩ := env.sl n _ hjb
      rw [hpw] at g5; cases g5
      cases ev5
      have efin := e1.kn hj hpa fx dc5 (DnA.less (fun _ => .inl) _ _ dk5) (DnA.less (fun _ => .inl) _ _ dv5)
      exact .inl ⟨w2 i (by omega), k acc ks vs0 hr D xs H efin nED hDx (DnA.less (fun _ => .inl) _ _ hacc)⟩
  · exact hds.elim
def ssetK (i : Nat) (w : RL) (vs : List Nat) (T : Tg) (tt : RT2) (te : RE) (n : Nat) : RS2 := fun Z ρ => wlcK w vs T tt te n ρ fun acc ks' vs' => Z.nx ((ρ.set n (some (.md ks' vs'))).set i (some (.im (.lst acc))))
theorem s2_setLc {i : Nat} {y : Str} {py spos : Pos} {scope : Scope} {own : List (Str × Nat)} {T : Tg} {tt : RT2} (hin : i ≠ n) (hnv : n ∉ own.map (·.2)) (hc : X.calm = true) (hN : X.N.Nodup) (hy : X.N[i]? = some y) (hyl : X.env.scope.names.lookup y = some .local)
    (hsw : swapsWith (.ListComp elt [⟨tg, iter, ifs, 0⟩] scope pos) (some (.Name y py)) spos.line X.env = pure true) (hi : ID X tg iter w) (ok : BlkOk X.N X.env.scope scope own) (hT : ∀ i ∈ T.slots, i ∈ own.map (·.2))
    (hg : ∀ (s : Shared) (H : Hp) (C : Addr) (cl : List (Str × Addr)) (fp : List Addr), GD (X.blk s H scope (compEnvC scope cl C X.env) fp) tg T) (ht : ∀ (s : Shared) (H : Hp) (C : Addr) (cl : List (Str × Addr)) (fp : List Addr), TsD2 (X.blk s H scope (compEnvC scope cl C X.env) fp) n ifs tt)
    (he : ∀ (s : Shared) (H : Hp) (C : Addr) (cl : List (Str × Addr)) (fp : List Addr), ED (X.blk s H scope (compEnvC scope cl C X.env) fp) elt te) (hs : ∀ x, foldedSetIterable iter X.env x = pure x := by intro _; rfl) :
    SD2 X n (.Assign [.Name y py] (.ListComp elt [⟨tg, iter, ifs, 0⟩] scope pos) spos) (ssetK i w (own.map (·.2)) T tt te n) := fun F pa hF hsr =>
  (ps_setLc (g := T.g X.K) (tt := fun σ H Q => ∃ v d, liftT2 (F.hold v d) n pa tt σ H Q) (te := fun σ H Q => ∃ v d, liftE (F.hold v d) te σ H Q) hc hN hy hyl hsw (hi F hF) ok (fun s H C cl fp => hg s H C cl fp)
    (fun s H C cl fp => ⟨fun pins s' σ H' Q I ⟨v, d, q⟩ => (ht s H C cl fp (F.hold v d) pa hF).run pins s' σ H' Q I q⟩)
    (fun s H C cl fp => ⟨fun pins s' σ H' Q I ⟨v, d, q⟩ => (he s H C cl fp (F.hold v d) hF).run pins s' σ H' Q I q⟩) hs).imp fun D_ σ H => by
  rintro ⟨E, ρ, Z, env, hpa, h, sv⟩
  have := lcK_ (F := F) (Q := fun x H1 => gName i x σ H1 D_.nx) hsr hT hnv σ H ⟨E, ρ, _, env, hpa, h, fun acc ks' vs' hq D xs H1 e1 nE hD ha => ?_⟩
  · rw [hF] at this
    exact this
  · exact sv.nx _ hq E _ H1 (e1.set ⟨D, xs, rfl, ⟨nE, hD⟩, ha⟩) (by rw [List.getElem?_set_ne hin]; exact hpa)
end
end DL

set_option Elab.async false
set_option linter.all false
set_option maxRecDepth 100000
set_option maxHeartbeats 4000000
namespace DL
open PySem L2
/-- a def whose last arg is a dict that it may change -/
def CalK (P : Program) (w : World) (K : PySem.W.Frag) (mg : Str → Option Value) (base : Heap) (x : Str) (k m : Nat) (tf : RFK) : Prop :=
  ∃ f fd ps, ps.length = m + 1 ∧ FnOk P w K mg base CX0 k f fd ps (spK K m tf) ∧ mg x = some (.ref f) ∧ PySem.W.keepIn K (.ref f) = true ∧ Binds K fd ps []
theorem CalK.mono {P : Program} {w : World} {K : PySem.W.Frag} {mg : Str → Option Value} {base : Heap} {x : Str} {j k m : Nat} {tf : RFK} (h : CalK P w K mg base x j m tf) (l : j ≤ k) : CalK P w K mg base x k m tf := by
  obtain ⟨f, fd, ps, h1, h2, h3⟩ := h
  exact ⟨f, fd, ps, h1, h2.mono l, h3⟩
theorem calK_of {P : Program} {w : World} {K : PySem.W.Frag} {mg : Str → Option Value} {base : Heap} {x : Str} {st : Stmt} {ps N : List Str} {k m : Nat} {t : RS2} (d : Def1 K mg x st ps) (S : FnScope N ps (defScope st)) (hm : ps.length = m + 1)
    (hb : ∀ (f : Addr) (cdv : Value) (A : Around) (outer : List Env) (s : Shared) (H : Hp) (E : XK), Room k (A.deeper (PyProof.Rows.envOfC x (defScope st) s.heap.objs.size f cdv)) → SsD2 (cxOf CX0 P w K mg base N x (defScope st) f cdv A outer s H E).nox m (defBody st) t) :
    CalK P w K mg base x (k + 1) m (fnK m (N.length - (m + 1)) t) := by
  obtain ⟨f, fd, F, hm', b⟩ := d
  exact ⟨f, fd, ps, hm, fn_okK F S hm (hb f), hm', F.kp, b⟩
theorem calK_never {P : Program} {w : World} {K : PySem.W.Frag} {mg : Str → Option Value} {base : Heap} {x : Str} {st : Stmt} {ps : List Str} {m : Nat} (d : Def1 K mg x st ps) (hm : ps.length = m + 1) : CalK P w K mg base x 1 m (fun _ _ _ _ => False) := by
  obtain ⟨f, fd, F, hm', b⟩ := d
  refine ⟨f, fd, ps, hm, ⟨fun vs H Q E h => ?_, fun A outer s H args us vs Q E hr he hb hv hs => ?_⟩, hm', F.kp, b⟩
  · obtain ⟨_, _, _, _, _, _, _, _, _, _, _, _, _, _, _, _, _, h, _⟩ := h
    exact h.elim
  · obtain ⟨_, _, _, _, _, _, _, _, _, _, _, _, _, _, _, _, _, h, _⟩ := hs
    exact h.elim
def recK (m l : Nat) (t : RFK → RS2) : Nat → RFK
  | 0 => fun _ _ _ _ => False
  | j + 1 => fnK m l (t (recK m l t j))
section
variable {X : Cx} {n : Nat} {e c : Expr} {es : List Expr} {pos p : Pos}
theorem t2_cal {k m : Nat} {tf : RFK} {tl : RL} {x : Str} (G : CalK X.prog X.w X.K X.mg X.base x k m tf) (hn : ∀ ds ks vs q, tf ds ks vs q → ds.length = m) (hr : Room k X.A) (hg : Gl X x) (ha : LKD X n (e :: es) tl)
    (hdb : (x == ("__debug__" : Str)) = false := by decide) (he : starEach (e :: es) X.env = (false, eval e X.env) :: starEach es X.env := by rfl) (hpl : (backTo pos (starEach es X.env)).any (·.1) = false := by rfl)
    (hw : ∀ whole, isTrue (.Call (.Name x p) (e :: es) [] pos) X.env whole = (do let v ← whole; standAt (Expr.pos (.Call (.Name x p) (e :: es) [] pos)); holding [v] (truthy v)) := by intro _; rfl) :
    TD2 X n (.Call (.Name x p) (e :: es) [] pos) (tcallK tf n tl) := by
  obtain ⟨f, fd, ps, _, h2, hm, hk, hb⟩ := G
  exact t2_call h2 hn hr hg hm hk hb ha hdb he hpl hw
def sifK (n : Nat) (c : RT2) (t u : RS) : RS := fun Z ρ => (∃ ks vs, ρ[n]? = some (some (.md ks vs))) ∧ sif2 c t u Z ρ
theorem s_ifK {tc : RT2} {t u : RS} {sa sb : List Stmt} (hc : TD2 X n c tc) (ha : SsD X sa t) (hb : SsD X sb u) : SD X (.If c sa sb pos) (sifK n tc t u) := s_if2 hc ha hb
end
end DL

set_option Elab.async false
set_option linter.all false
set_option maxRecDepth 100000
set_option maxHeartbeats 4000000
/-! texts -/
namespace DL
open PySem L2
def strsD : List D → Option (List Str)
  | [] => some []
  | .str a :: ds => (strsD ds).map (a :: ·)
  | _ => none
theorem strs_dna {K : PySem.W.Frag} {E : Addr → Prop} {H : Hp} : ∀ {ds : List D} {ys : List Str} {xs : List V}, DnA K E H ds xs → strsD ds = some ys → xs = ys.map V.str
  | [], ys, xs, h, e => by
    cases e
    exact h
  | d :: ds, ys, xs, ⟨x, r, ex, hx, hr⟩, e => by
    subst ex
    cases d with
    | str a =>
      rw [strsD] at e
      cases q : strsD ds with
      | none => rw [q] at e; cases e
      | some zs =>
        rw [q] at e
        cases e
        rw [strs_dna hr q, show x = .str a from hx]
        rfl
    | _ => cases e
section
variable {X : Cx} {o e : Expr} {ta tb : RE} {apos pos : Pos}
/-- sep.join(list of texts) -/
def djoin (ta tb : RE) : RE := fun ρ q => ta ρ fun x => match x with
  | .str a => tb ρ fun y => (match y with
    | .lst ds => (match strsD ds with
      | some ys => (ys.map (·.length)).sum + ys.length * a.length ≤ 16777216 ∧ q (.str (Txt.join a ys))
      | none => False)
    | _ => False)
  | _ => False
theorem e_join (ho : ED X o ta) (he : ED X e tb) (hs : starEach [e] X.env = [(false, eval e X.env)] := by rfl) (hbase : attributeBase o "join" X.env (eval o X.env) = eval o X.env := by rfl) (hline : (apos.endLine == pos.line) = true := by rfl) :
    ED X (.Call (.Attribute o "join" apos) [e] [] pos) (djoin ta tb) := fun F hF => (pe_join (ho F hF) (he F hF) hs hbase hline).imp fun σ H Q => by
  rintro ⟨E, ρ, q, env, h, k⟩
  refine ⟨E, ρ, _, env, h, fun x hx u H1 x1 hu => ?_⟩
  have e1 := env.step x1
  cases x with
  | str a =>
    refine ⟨⟨a, hu⟩, E, ρ, _, e1, hx, fun y hy v H2 x2 hv => ?_⟩
    cases y with
    | lst ds =>
      obtain ⟨p, xs, rfl, l, g⟩ := hv
      cases qs : strsD ds with
      | none => simp only [qs] at hy
      | some ys =>
        simp only [qs] at hy
        have ex := strs_dna g qs
        subst ex
        exact ⟨a, p, ys, hu, rfl, .inl (.inl (.inl l.2)), hy.1, k _ hy.2 _ H2 (x1.trans x2) rfl⟩
    | _ => exact (show False from hy).elim
  | _ => exact (show False from hx).elim
/-- text.split(sep) -/
def dsplit (ta tb : RE) : RE := fun ρ q => ta ρ fun x => match x with
  | .str a => tb ρ fun y => (match y with
    | .str b => (b.length == 0) = false ∧ a.length + 2 ≤ sizeLine ∧ q (.lst ((Txt.split a b).map D.str))
    | _ => False)
  | _ => False
theorem new_strs {F : Fx} {E : Addr → Prop} {H : Hp} (at_ : At F E H) {p : Addr} (hp : H p = none) (ys : List Str) : Dn F.K E (upd H p (.lst (ys.map V.str))) (.lst (ys.map D.str)) (.ref p) := by
  refine at_.lst hp ?_
  induction ys with
  | nil => rfl
  | cons y ys ih => exact ⟨_, _, rfl, rfl, ih⟩
theorem e_split (ho : ED X o ta) (he : ED X e tb) (hs : starEach [e] X.env = [(false, eval e X.env)] := by rfl) (hbase : attributeBase o "split" X.env (eval o X.env) = eval o X.env := by rfl) (hline : (apos.endLine == pos.line) = true := by rfl) :
    ED X (.Call (.Attribute o "split" apos) [e] [] pos) (dsplit ta tb) := fun F hF => (pe_split (ho F hF) (he F hF) hs hbase hline).imp fun σ H Q => by
  rintro ⟨E, ρ, q, env, h, k⟩
  refine ⟨E, ρ, _, env, h, fun x hx u H1 x1 hu => ?_⟩
  have e1 := env.step x1
  cases x with
  | str a =>
    refine ⟨⟨a, hu⟩, E, ρ, _, e1, hx, fun y hy v H2 x2 hv => ?_⟩
    have e2 := e1.step x2
    cases y with
    | str b =>
      obtain ⟨h1, h2, h3⟩ := hy
      refine ⟨a, b, hu, by rw [show v = .str b from hv], h1, h2, fun p hp => ?_⟩
      exact k _ h3 _ _ (x1.trans (x2.trans (XExt.new e2.so hp))) (new_strs e2.at_ hp _)
    | _ => exact (show False from hy).elim
  | _ => exact (show False from hx).elim
/-- str + str -/
def rAddS : R2D := fun x y q => match x, y with
  | .str a, .str b => a.length + b.length ≤ sizeLine ∧ q (.str (a ++ b))
  | _, _ => False
theorem o_addS : OpD X (binaryOp .Add) rAddS := by
  refine ⟨_, op_add_str, fun F E H x y u v q Q hF at_ hx hy hr k => ?_⟩
  cases x with
  | str a =>
    cases y with
    | str b => exact ⟨a, b, hx, hy, hr.1, k _ hr.2 _ H (XExt.refl at_.so) rfl⟩
    | _ => exact (show False from hr).elim
  | _ => cases y <;> exact (show False from hr).elim
/-- f"{a}sep{b}" of two numbers -/
def dfs2 (sep : Str) (ta tb : RE) : RE := fun ρ q => ta ρ fun x => match x with
  | .int i => (i.natAbs.log2 < 1920 ∧ (Str.empty ++ (toString i : Str)).length ≤ sizeLine ∧ (Str.empty ++ (toString i : Str) ++ sep).length ≤ sizeLine) ∧ tb ρ fun y => (match y with
    | .int j => j.natAbs.log2 < 1920 ∧ (Str.empty ++ (toString i : Str) ++ sep ++ (toString j : Str)).length ≤ sizeLine ∧ q (.str (Str.empty ++ (toString i : Str) ++ sep ++ (toString j : Str)))
    | _ => False)
  | _ => False
theorem e_fs2 {a b : Expr} {p1 p2 p3 : Pos} {sep : Str} {kk} (ha : ED X a ta) (hb : ED X b tb) : ED X (.JoinedStr [.FormattedValue a (-1) none p1, .Constant (.str sep) kk p2, .FormattedValue b (-1) none p3] pos) (dfs2 sep ta tb) := fun F hF =>
  (pe_joined (.cons (pe_fmt (ha F hF)) (.cons pe_str (.cons (pe_fmt (hb F hF)) .nil)))).imp fun σ H Q => by
  rintro ⟨E, ρ, q, env, h, k⟩
  refine ⟨E, ρ, _, env, h, fun x hx u H1 x1 hu => ?_⟩
  have e1 := env.step x1
  cases x with
  | int i =>
    obtain ⟨⟨h1, h2, h3⟩, hx⟩ := hx
    refine .inr ⟨i, hu, h1, _, rfl, h2, sep, rfl, h3, E, ρ, _, e1, hx, fun y hy v H2 x2 hv => ?_⟩
    cases y with
    | int j =>
      obtain ⟨g1, g2, g3⟩ := hy
      exact .inr ⟨j, hv, g1, _, rfl, g2, k _ g3 _ H2 (x1.trans x2) rfl⟩
    | _ => exact (show False from hy).elim
  | _ => exact (show False from hx).elim
/-- str(number) -/
def rStrI : RCD := fun ds q => match ds with
  | [.int i] => i.natAbs.log2 < 1920 ∧ q (.str (toString i : Str))
  | _ => False
theorem c_strI : CallD X (.type "str") rStrI := by
  refine ⟨_, call_str_int, fun F E H ds vs q Q hF at_ hv h k => ?_⟩
  unfold rStrI at h
  split at h
  · rename_i i
    obtain ⟨v, rfl, h1⟩ := hv.one
    have e1 : v = .int i := h1
    subst e1
    exact ⟨i, rfl, h.1, k _ h.2 _ H (XExt.refl at_.so) rfl⟩
  · exact h.elim
theorem fold_size {α : Type} (x : Array α) : ∀ (m : Nat) (acc : Array α), (List.foldl (fun x1 x2 => x1 ++ x2) acc (List.replicate m x)).size = acc.size + m * x.size
  | 0, acc => by simp
  | m + 1, acc => by
    rw [List.replicate_succ, List.foldl_cons, fold_size x m, Array.size_append, Nat.succ_mul]
    omega
/-- a text so many times -/
def repS (a : Str) (n : Int) : Str := if n < 1 then Str.empty else if (n == 1 || a.length == 0) = true then a else ⟨(List.replicate n.toNat a.cps).foldl (· ++ ·) #[]⟩
theorem op_mulS : OpR X (binaryOp .Mult) (fun x y H Q => ∃ (a : Str) (n : Int), x = .str a ∧ y = .int n ∧ -1000 ≤ n ∧ n ≤ 1000 ∧ a.length ≤ 1000 ∧ Q (.str (repS a n)) H) := by
  intro pins s σ H x y v u Q I rx ry h
  obtain ⟨a, n, rfl, rfl, h0, h1, hl, q⟩ := h
  obtain ⟨t, rfl⟩ := rx
  obtain ⟨t', rfl⟩ := ry
  refine PySem.P.mul_str (by rw [decide_eq_false (by omega), decide_eq_false (by omega)]; rfl) (fun h2 h3 => ?_) (fun h2 h3 => ?_) ?_
  · have : (1000 : Int) ≤ (2 ^ 63 - 1) / n := Int.le_ediv_of_mul_le (by omega) (by omega)
    omega
  · unfold Builtin.Str.tooLong
    have h5 : a.length * n.toNat ≤ 1000 * 1000 := Nat.mul_le_mul hl (by omega)
    rw [sizeLine_eq]
    exact decide_eq_false (by omega)
  · unfold repS at q
    by_cases c1 : n < 1
    · rw [if_pos c1] at q ⊢
      exact ⟨by decide, ⟨.str Str.empty, H, I.tok _, ⟨_, rfl⟩, q⟩⟩
    · rw [if_neg c1] at q ⊢
      by_cases c2 : (n == 1 || a.length == 0) = true
      · rw [if_pos c2] at q ⊢
        exact ⟨.str a, H, I, ⟨_, rfl⟩, q⟩
      · rw [if_neg c2] at q ⊢
        refine ⟨?_, ⟨.str _, H, I.tok _, ⟨_, rfl⟩, q⟩⟩
        show (List.foldl (fun x1 x2 => x1 ++ x2) #[] (List.replicate n.toNat a.cps)).size ≤ sizeLine
        rw [fold_size, sizeLine_eq]
        have h5 : n.toNat * a.cps.size ≤ 1000 * 1000 := Nat.mul_le_mul (by omega) hl
        simp
        omega
def rMulS : R2D := fun x y q => match x, y with
  | .str a, .int n => -1000 ≤ n ∧ n ≤ 1000 ∧ a.length ≤ 1000 ∧ q (.str (repS a n))
  | _, _ => False
theorem o_mulS : OpD X (binaryOp .Mult) rMulS := by
  refine ⟨_, op_mulS, fun F E H x y u v q Q hF at_ hx hy hr k => ?_⟩
  cases x with
  | str a =>
    cases y with
    | int n => exact ⟨a, n, hx, hy, hr.1, hr.2.1, hr.2.2.1, k _ hr.2.2.2 _ H (XExt.refl at_.so) rfl⟩
    | _ => exact (show False from hr).elim
  | _ => cases y <;> exact (show False from hr).elim
end
end DL

set_option Elab.async false
set_option linter.all false
set_option maxRecDepth 100000
set_option maxHeartbeats 4000000
/-! properties; lists within a list that are changed behind the back of the pure data -/
namespace DL
open PySem L2
section
variable {X : Cx} {e : Expr} {ta : RE} {pos : Pos}
def dprop (C : Addr) (tf : RF) (ta : RE) : RE := fun ρ q => ta ρ fun d => match d with
  | .obj c ns ds => c = C ∧ tf [.im (.obj c ns ds)] q
  | _ => False
def PrOk (P : Program) (w : World) (K : PySem.W.Frag) (mg : Str → Option Value) (base : Heap) (C : Addr) (f : Str) (k : Nat) (tf : RF) : Prop :=
  ∃ p g fd, PropOf K C f p g ∧ FnOk P w K mg base CX0 k g fd ["self"] (spD K 1 tf) ∧ Binds K fd ["self"] []
theorem e_prop {k : Nat} {C : Addr} {f : Str} {tf : RF} (cl : Cls X.K C) (G : PrOk X.prog X.w X.K X.mg X.base C f k tf) (hr : Room (k + 1) X.A) (he : ED X e ta)
    (hab : attributeBase e f X.env (eval e X.env) = eval e X.env := by rfl) : ED X (.Attribute e f pos) (dprop C tf ta) := fun F hF => by
  obtain ⟨p, g, fd, hp, G, b⟩ := G
  refine (pe_prop (he F hF) cl hp G hr b .nil pass0 hab).imp fun σ H Q => ?_
  rintro ⟨E, ρ, q, env, h, k⟩
  refine ⟨E, ρ, _, env, h, fun d hd v H1 x1 hv => ?_⟩
  split at hd
  · rename_i c ns ds
    obtain ⟨rfl, hd⟩ := hd
    have e1 := env.step x1
    obtain ⟨a, dx, fs, rfl, nE, hH, em, g⟩ := id hv
    refine ⟨a, dx, fs, rfl, hH, ?_⟩
    exact ⟨⟨F.K, E, H1, F.src, []⟩, [.im (.obj c ns ds)], q, hF, rfl, rfl, fun b hb => e1.we hb, e1.live, e1.so, rfl, ⟨hv, trivial⟩, hd, fun d hd v H' x2 hv => k d hd v H' (x1.trans x2) hv⟩
  · exact hd.elim
end
/-! ### data without lists -/
mutual
def D.nol : D → Bool
  | .non => true
  | .bl _ => true
  | .int _ => true
  | .str _ => true
  | .tup xs => D.nols xs
  | .lst _ => false
  | .obj _ _ _ => false
  | .dct _ _ => false
def D.nols : List D → Bool
  | [] => true
  | d :: ds => d.nol && D.nols ds
end
mutual
theorem nol_keep {K : PySem.W.Frag} {E : Addr → Prop} {H H' : Hp} (k : ∀ q xs, H q = some (.tup xs) → H' q = some (.tup xs)) : ∀ (d : D) (v : V), d.nol = true → Dn K E H d v → Dn K (fun _ => False) H' d v
  | .non, _, _, h => h
  | .bl _, _, _, h => h
  | .int _, _, _, h => h
  | .str _, _, _, h => h
  | .tup ds, _, n, ⟨a, xs, e, t, h⟩ => ⟨a, xs, e, t.elim (fun z => .inl ⟨fun f => f, k _ _ z.2⟩) .inr, nols_keep k ds xs n h⟩
  | .lst _, _, n, _ => absurd (show false = true from n) Bool.false_ne_true
  | .obj _ _ _, _, n, _ => absurd (show false = true from n) Bool.false_ne_true
  | .dct _ _, _, n, _ => absurd (show false = true from n) Bool.false_ne_true
theorem nols_keep {K : PySem.W.Frag} {E : Addr → Prop} {H H' : Hp} (k : ∀ q xs, H q = some (.tup xs) → H' q = some (.tup xs)) : ∀ (ds : List D) (vs : List V), D.nols ds = true → DnA K E H ds vs → DnA K (fun _ => False) H' ds vs
  | [], _, _, h => h
  | d :: ds, _, n, ⟨x, r, e, h1, h2⟩ => by
    rw [D.nols, Bool.and_eq_true] at n
    exact ⟨x, r, e, nol_keep k d x n.1 h1, nols_keep k ds r n.2 h2⟩
end
theorem nols_get : ∀ {ds : List D} {i : Nat} {d : D}, D.nols ds = true → ds[i]? = some d → d.nol = true
  | [], _, _, _, e => by simp at e
  | d :: ds, 0, _, n, e => by
    rw [D.nols, Bool.and_eq_true] at n
    simp at e; subst e; exact n.1
  | d :: ds, i + 1, c, n, e => by
    rw [D.nols, Bool.and_eq_true] at n
    exact nols_get (ds := ds) (i := i) n.2 (by simpa using e)
/-! ### the raw part -/
section
variable {X : Cx}
def rLst (K : PySem.W.Frag) : List V → Hp → VK → Prop := fun xs H Q => ∃ p ys, xs = [.ref p] ∧ (SqL K H p ys ∨ SqT K H p ys) ∧ ∀ l, H l = none → Q (.ref l) (upd H l (.lst ys))
/-- known = [list(x) for x in first] -/
abbrev tCopy (K : PySem.W.Frag) (iF iX iK : Nat) : TS := tAsg (tLc (iList K (tVar iF)) (gName iX) tYes (tCB (rLst K) (tCons (tVar iX) tNil)) [iX]) (gName iK)
theorem copy_ {K : PySem.W.Frag} {iF iX iK : Nat} {D_ : Ends} {σ : St} (hX : iX < σ.length) {H : Hp} {a : Addr} {bs : List Addr} {xss : List (List V)}
    (hF : σ[iF]? = some (some (.ref a))) (ha : H a = some (.lst (bs.map V.ref))) (hl : bs.length = xss.length) (hb : ∀ (j : Nat) b, bs[j]? = some b → ∃ xs, xss[j]? = some xs ∧ H b = some (.lst xs)) (hz : bs.length < sizeLine)
    (k : ∀ (H' : Hp) (p : Addr) (cs : List Addr), Same H H' → H p = none → H' p = some (.lst (cs.map V.ref)) → cs.length = bs.length → (∀ (j : Nat) c, cs[j]? = some c → H c = none ∧ ∃ xs, xss[j]? = some xs ∧ H' c = some (.lst xs)) → D_.nx (σ.set iK (some (.ref p))) H') :
    tCopy K iF iX iK D_ σ H := by
  refine ⟨.ref a, hF, a, rfl, ⟨_, SqL.of ha⟩, fun D hD => ?_⟩
  have nDa : D ≠ a := fun z => by rw [z, ha] at hD; cases hD
  refine ⟨fun i m H' => m = bs.length - i ∧ i ≤ bs.length ∧ Same H H' ∧ ∃ cs : List Addr, cs.length = i ∧ H' D = some (.lst (cs.map V.ref)) ∧ ∀ (j : Nat) c, cs[j]? = some c → c ≠ D ∧ H c = none ∧ ∃ xs, xss[j]? = some xs ∧ H' c = some (.lst xs),
    ⟨bs.length, rfl, Nat.zero_le _, fun b o q => by rw [upd_ne (ne_of_none q hD)]; exact q, [], rfl, upd_same, fun j c e => by simp at e⟩, ?_⟩
  rintro i m H' ⟨rfl, hi, sm, cs, hcl, hDc, hcs⟩
  have ha' : H' a = some (.lst (bs.map V.ref)) := sm _ _ ha
  by_cases hlt : i < bs.length
  · obtain ⟨xs, hx1, hx2⟩ := hb i bs[i] (List.getElem?_eq_getElem hlt)
    refine .inr ⟨⟨_, .ref bs[i], SqL.of ha', by simp [hlt]⟩, fun H' => Same H H' ∧ ∃ cs : List Addr, cs.length = i + 1 ∧ H' D = some (.lst (cs.map V.ref)) ∧ ∀ (j : Nat) c, cs[j]? = some c → c ≠ D ∧ H c = none ∧ ∃ xs, xss[j]? = some xs ∧ H' c = some (.lst xs),
      fun H' z => ⟨_, Nat.sub_lt_sub_left hlt (Nat.lt_succ_self i), rfl, hlt, z⟩, ?_⟩
    rintro x H2 ⟨rfl, hx⟩
    have ex := hx _ (SqL.of ha')
    have ex' : x = .ref bs[i] := by
      rw [List.getElem?_map, List.getElem?_eq_getElem hlt] at ex
      exact (Option.some.inj ex).symm
    subst ex'
    show wipe (List.set (wipe σ [iX]) iX (some (.ref bs[i]))) [iX] = wipe σ [iX] ∧ _
    have hlen : (wipe σ [iX]).length = σ.length := by simp [wipe]
    refine ⟨by simp [wipe], ?_⟩
    unfold tYes
    dsimp only
    rw [if_pos rfl]
    · have hiX := hX
      refine ⟨.ref bs[i], by rw [List.getElem?_set_self (by rw [hlen]; exact hiX)], bs[i], xs, rfl, .inl (SqL.of (sm _ _ hx2)), fun l hl' => ?_⟩
      have nDl : D ≠ l := fun z => by rw [← z, hDc] at hl'; cases hl'
      have hl0 : H l = none := by
        cases q : H l with
        | none => rfl
        | some o => rw [sm _ _ q] at hl'; cases hl'
      refine ⟨cs.map V.ref, by rw [upd_ne nDl]; exact hDc, by rw [List.length_map]; omega, ?_, cs ++ [l], by simp [hcl], by rw [upd_same]; simp, fun j c e => ?_⟩
      · intro b o q
        rw [upd_ne (ne_of_none q hD), upd_ne (ne_of_none q hl0)]
        exact sm _ _ q
      · by_cases hj : j < cs.length
        · rw [List.getElem?_append_left hj] at e
          obtain ⟨h1, h2, zs, h3, h4⟩ := hcs j c e
          refine ⟨h1, h2, zs, h3, ?_⟩
          rw [upd_ne h1, upd_ne (ne_of_none h4 hl')]
          exact h4
        · have hj' : j = cs.length := by
            have := (List.getElem?_eq_some_iff.mp e).1
            simp at this
            omega
          subst hj'
          simp at e
          subst e
          refine ⟨Ne.symm nDl, hl0, xs, by rw [hcl]; exact hx1, ?_⟩
          rw [upd_ne (Ne.symm nDl), upd_same]
  · have hil : i = bs.length := by omega
    refine .inl ⟨⟨_, SqL.of ha', by simp; omega⟩, ?_⟩
    exact k H' D cs sm hD hDc (by omega) fun j c e => (hcs j c e).2
/-- for x in first: x.append(..); x.reverse() -/
abbrev tSpoil (K : PySem.W.Frag) (iF iX : Nat) (x : Str) : TS := tFor (iList K (tVar iF)) (gName iX) (tSeq (tDrop (tBM K "list" rAppend (tVar iX) (tCons (tC (.str x)) tNil))) (tDrop (tBM0 K "list" rReverse (tVar iX))))
theorem spoil_ {K : PySem.W.Frag} {iF iX : Nat} {D_ : Ends} {σ : St} {H : Hp} {a : Addr} {bs : List Addr} {x : Str} (hX : iX < σ.length)
    (hF : σ[iF]? = some (some (.ref a))) (ha : H a = some (.lst (bs.map V.ref))) (na : a ∉ bs) (hb : ∀ b ∈ bs, ∃ xs, H b = some (.lst xs) ∧ xs.length + bs.length < sizeLine)
    (k : ∀ σ' H', σ'.length = σ.length → (∀ j, j ≠ iX → σ'[j]? = σ[j]?) → (∀ q o, H q = some o → q ∉ bs → H' q = some o) → D_.nx σ' H') : tSpoil K iF iX x D_ σ H := by
  refine ⟨.ref a, hF, a, rfl, ⟨_, SqL.of ha⟩, fun i m σ' H' => m = bs.length - i ∧ i ≤ bs.length ∧ σ'.length = σ.length ∧ (∀ j, j ≠ iX → σ'[j]? = σ[j]?) ∧ (∀ q o, H q = some o → q ∉ bs → H' q = some o) ∧ ∀ b ∈ bs, ∃ xs, H' b = some (.lst xs) ∧ xs.length + bs.length < sizeLine + i,
    ⟨bs.length, rfl, Nat.zero_le _, rfl, fun _ _ => rfl, fun _ _ q _ => q, fun b hb' => by obtain ⟨xs, h1, h2⟩ := hb b hb'; exact ⟨xs, h1, by omega⟩⟩, ?_⟩
  rintro i m σ2 H2 ⟨rfl, hi, hlen, hσ, hk, hbs⟩
  have ha2 := hk _ _ ha na
  by_cases hlt : i < bs.length
  · refine .inr ⟨⟨_, .ref bs[i], SqL.of ha2, by simp [hlt]⟩, fun σ' H' => σ'.length = σ.length ∧ (∀ j, j ≠ iX → σ'[j]? = σ[j]?) ∧ (∀ q o, H q = some o → q ∉ bs → H' q = some o) ∧ ∀ b ∈ bs, ∃ xs, H' b = some (.lst xs) ∧ xs.length + bs.length < sizeLine + (i + 1),
      fun σ' H' z => ⟨_, Nat.sub_lt_sub_left hlt (Nat.lt_succ_self i), rfl, hlt, z⟩, ?_⟩
    rintro y H3 ⟨rfl, hy⟩
    have ey := hy _ (SqL.of ha2)
    have ey' : y = .ref bs[i] := by
      rw [List.getElem?_map, List.getElem?_eq_getElem hlt] at ey
      exact (Option.some.inj ey).symm
    subst ey'
    obtain ⟨xs, h1, h2⟩ := hbs bs[i] (List.getElem_mem hlt)
    have g : (List.set σ2 iX (some (V.ref bs[i])))[iX]? = some (some (.ref bs[i])) := List.getElem?_set_self (by omega)
    refine ⟨.ref bs[i], g, .inl ⟨rfl, xs, SqL.of h1⟩, ?_⟩
    refine ⟨bs[i], xs, .str x, rfl, rfl, h1, by omega, ?_⟩
    refine ⟨.ref bs[i], g, .inl ⟨rfl, _, SqL.of upd_same⟩, bs[i], xs ++ [.str x], rfl, rfl, upd_same, ?_⟩
    refine ⟨by simp [hlen], fun j hj => by rw [List.getElem?_set_ne (Ne.symm hj)]; exact hσ j hj, fun q o h hn => ?_, fun b hb' => ?_⟩
    · have z : q ≠ bs[i] := fun z => hn (z ▸ List.getElem_mem hlt)
      rw [upd_ne z, upd_ne z]
      exact hk q o h hn
    · by_cases z : b = bs[i]
      · subst z
        exact ⟨_, upd_same, by simp; omega⟩
      · rw [upd_ne z, upd_ne z]
        obtain ⟨ys, q1, q2⟩ := hbs b hb'
        exact ⟨ys, q1, by omega⟩
  · exact .inl ⟨⟨_, SqL.of ha2, by simp; omega⟩, k σ2 H2 hlen hσ hk⟩
end
/-! ### the law, statement by statement -/
def LawOk (X : Cx) (ss : List Stmt) (t : Rho → Prop) : Prop := PSs X ss (fun D_ σ H => (∀ H', D_.rt (.bl true) H') ∧ ∃ F E ρ, F.K = X.K ∧ DEnv F E σ H ρ ∧ t ρ)
def lawZ (t : Rho → Prop) : DEnds := ⟨t, fun d => d = .bl true, fun _ => False, fun _ => False⟩
section
variable {X : Cx} {s : Stmt} {ss : List Stmt} {t : RS} {u : Rho → Prop}
theorem lw_end (h : SsD X ss t) : LawOk X ss (t (lawZ fun _ => False)) := by
  refine ⟨fun pins s σ H D_ I ⟨k, F, E, ρ, hF, env, ht⟩ => (h F hF).run pins s σ H D_ I ⟨E, ρ, _, env, ht, ⟨fun ρ z => z.elim, fun d hd v H' x hv => ?_, fun ρ z => z.elim, fun ρ z => z.elim⟩⟩⟩
  have hd' : d = .bl true := hd
  subst hd'
  rw [show v = .bl true from hv]
  exact k H'
theorem lw_cons (h : SD X s t) (hr : LawOk X ss u) : LawOk X (s :: ss) (t (lawZ u)) := by
  have h1 : PS X s (fun D_ σ H => ∃ F, F.K = X.K ∧ liftS F t D_ σ H) := ⟨fun pins s σ H D_ I ⟨F, hF, z⟩ => (h F hF).run pins s σ H D_ I z⟩
  refine (pss_cons h1 hr).imp fun D_ σ H => ?_
  rintro ⟨k, F, E, ρ, hF, env, ht⟩
  refine ⟨F, hF, E, ρ, lawZ u, env, ht, ⟨fun ρ z E σ H env => ⟨k, F, E, ρ, hF, env, z⟩, fun d hd v H' x hv => ?_, fun ρ z => z.elim, fun ρ z => z.elim⟩⟩
  have hd' : d = .bl true := hd
  subst hd'
  rw [show v = .bl true from hv]
  exact k H'
def cleanR (ρ : Rho) : Rho := ρ.map fun s => match s with
  | some (.im d) => if d.nol = true then some (.im d) else none
  | _ => none
def swild (iF iX iK : Nat) (u : Rho → Prop) : Rho → Prop := fun ρ => iX < ρ.length ∧ iK < ρ.length ∧ ∃ dss : List (List D), ρ[iF]? = some (some (.im (.lst (dss.map D.lst)))) ∧ (∀ ds ∈ dss, D.nols ds = true ∧ ds.length + dss.length < sizeLine) ∧ dss.length < sizeLine ∧
  u (((cleanR ρ).set iK (some (.im (.lst (dss.map D.lst))))).set iX none)
theorem lsts_of {K : PySem.W.Frag} {E : Addr → Prop} {H : Hp} : ∀ {dss : List (List D)} {vs : List V}, DnA K E H (dss.map D.lst) vs → ∃ (bs : List Addr) (xss : List (List V)), vs = bs.map V.ref ∧ bs.length = dss.length ∧ xss.length = dss.length ∧
    ∀ (j : Nat) b, bs[j]? = some b → ∃ ds xs, dss[j]? = some ds ∧ xss[j]? = some xs ∧ H b = some (.lst xs) ∧ DnA K E H ds xs
  | [], vs, h => ⟨[], [], h, rfl, rfl, fun j b e => by simp at e⟩
  | ds :: dss, vs, ⟨x, r, e, ⟨a, xs, e1, l, g⟩, h2⟩ => by
    obtain ⟨bs, xss, h3, h4, h5, h6⟩ := lsts_of h2
    refine ⟨a :: bs, xs :: xss, by rw [e, e1, h3]; rfl, by simp [h4], by simp [h5], fun j b e => ?_⟩
    match j, e with
    | 0, e => simp at e; subst e; exact ⟨ds, xs, rfl, rfl, l.2, g⟩
    | j + 1, e =>
      obtain ⟨ds', xs', q1, q2, q3⟩ := h6 j b (by simpa using e)
      exact ⟨ds', xs', by simpa using q1, by simpa using q2, q3⟩
theorem of_lsts {K : PySem.W.Frag} {H : Hp} : ∀ {dss : List (List D)} {cs : List Addr}, cs.length = dss.length → (∀ (j : Nat) c, cs[j]? = some c → ∃ ds xs, dss[j]? = some ds ∧ H c = some (.lst xs) ∧ DnA K (fun _ => False) H ds xs) → DnA K (fun _ => False) H (dss.map D.lst) (cs.map V.ref)
  | [], [], _, _ => rfl
  | [], _ :: _, h, _ => by simp at h
  | _ :: _, [], h, _ => by simp at h
  | ds :: dss, c :: cs, h, k => by
    obtain ⟨ds', xs, q1, q2, q3⟩ := k 0 c rfl
    simp at q1
    subst q1
    exact ⟨_, _, rfl, ⟨c, xs, rfl, ⟨fun f => f, q2⟩, q3⟩, of_lsts (by simpa using h) fun j c e => by
      obtain ⟨ds', xs, q1, q2, q3⟩ := k (j + 1) c (by simpa using e)
      exact ⟨ds', xs, by simpa using q1, q2, q3⟩⟩
theorem clean_get {ρ : Rho} {i : Nat} {s : Sl} (h : (cleanR ρ)[i]? = some (some s)) : ∃ d, s = .im d ∧ d.nol = true ∧ ρ[i]? = some (some (.im d)) := by
  unfold cleanR at h
  rw [List.getElem?_map] at h
  cases q : ρ[i]? with
  | none => rw [q] at h; cases h
  | some o =>
    rw [q] at h
    match o, h with
    | some (.im d), h =>
      simp only [Option.map_some] at h
      by_cases z : d.nol = true
      · rw [if_pos z] at h
        cases h
        exact ⟨d, rfl, z, rfl⟩
      · rw [if_neg z] at h; cases h
    | some (.ml _), h => cases h
    | some (.md _ _), h => cases h
    | some .src, h => cases h
    | none, h => cases h
theorem lw_wild {S1 S2 : Stmt} {iF iX iK : Nat} {x : Str} (nFX : iF ≠ iX) (nFK : iF ≠ iK) (nXK : iX ≠ iK) (h1 : PS X S1 (tCopy X.K iF iX iK)) (h2 : PS X S2 (tSpoil X.K iF iX x)) (hr : LawOk X ss u) : LawOk X (S1 :: S2 :: ss) (swild iF iX iK u) := by
  refine ⟨fun pins s σ H D_ I ⟨k, F, E, ρ, hF, env, hX, hK, dss, hi, hd, hz, hu⟩ => (pss_cons h1 (pss_cons h2 hr)).run pins s σ H D_ I ?_⟩
  have noK : ∀ b xs, (∃ o, X.K.lookup b = some o) → H b ≠ some (.lst xs) := fun b xs ⟨o, e⟩ q => by
    have := (I.bs b o (I.ok.mod.kin b o e)).2
    rw [this] at q; cases q
  obtain ⟨v, hv, a, vs, rfl, l, g⟩ := env.sl iF _ hi
  obtain ⟨bs, xss, rfl, hl1, hl2, hb⟩ := lsts_of g
  have hX' : iX < σ.length := by rw [env.len]; exact hX
  have hK1 : iK < σ.length := by rw [env.len]; exact hK
  have hbl : ∀ b ∈ bs, ∃ ds xs, ds ∈ dss ∧ H b = some (.lst xs) ∧ DnA F.K E H ds xs := fun b hbm => by
    obtain ⟨j, hj, e⟩ := List.getElem_of_mem hbm
    obtain ⟨ds, xs, q1, q2, q3, q4⟩ := hb j b (by rw [List.getElem?_eq_getElem hj, e])
    exact ⟨ds, xs, List.mem_of_getElem? q1, q3, q4⟩
  have na : a ∉ bs := fun hm => by
    obtain ⟨j, hj, e⟩ := List.getElem_of_mem hm
    obtain ⟨ds, xs, q1, q2, q3, q4⟩ := hb j a (by rw [List.getElem?_eq_getElem hj, e])
    have ex : xs = bs.map V.ref := by
      have := l.2
      rw [q3] at this
      cases this; rfl
    subst ex
    have nd := (hd ds (List.mem_of_getElem? q1)).1
    have hjd : j < ds.length := by
      have := q4.len
      simp at this
      omega
    obtain ⟨y, hy, dy⟩ := q4.get (List.getElem?_eq_getElem hjd)
    have ey : y = .ref a := by
      rw [List.getElem?_map, List.getElem?_eq_getElem hj, e] at hy
      exact (Option.some.inj hy).symm
    subst ey
    have ndj := nols_get nd (List.getElem?_eq_getElem hjd)
    generalize ds[j] = d at dy ndj
    cases d with
    | tup es =>
      obtain ⟨a', ys, e', t, _⟩ := dy
      cases e'
      rcases t with t | ⟨o, _, _, t, _⟩
      · have := t.2
        rw [q3] at this; cases this
      · rw [hF] at t
        exact noK a _ ⟨o, t⟩ q3
    | non => cases dy
    | bl b => cases dy
    | int i => cases dy
    | str x => cases dy
    | lst _ => cases ndj
    | obj _ _ _ => cases ndj
    | dct _ _ => cases ndj
  refine copy_ hX' hv l.2 (by rw [hl1, hl2]) (fun j b e => ?_) (by omega) fun H1 p cs sm hp hpc hcl hcs => ?_
  · obtain ⟨ds, xs, q1, q2, q3, q4⟩ := hb j b e
    exact ⟨xs, q2, q3⟩
  refine spoil_ (a := a) (bs := bs) (by simpa using hX') (by rw [List.getElem?_set_ne (Ne.symm nFK)]; exact hv) (sm _ _ l.2) na (fun b hbm => ?_) fun σ' H' hlen hσ hk => ?_
  · obtain ⟨ds, xs, q1, q2, q3⟩ := hbl b hbm
    exact ⟨xs, sm _ _ q2, by rw [q3.len, hl1]; exact (hd ds q1).2⟩
  have hkeep : ∀ q xs, H q = some (.tup xs) → H' q = some (.tup xs) := fun q xs e => hk q _ (sm _ _ e) fun hm => by
    obtain ⟨ds, ys, _, q2, _⟩ := hbl q hm
    rw [q2] at e; cases e
  have fresh : ∀ c, H c = none → c ∉ bs := fun c e hm => by
    obtain ⟨ds, ys, _, q2, _⟩ := hbl c hm
    rw [q2] at e; cases e
  have hpk : H' p = some (.lst (cs.map V.ref)) := hk p _ hpc (fresh p hp)
  have dnK : Dn F.K (fun _ => False) H' (.lst (dss.map D.lst)) (.ref p) := by
    refine ⟨p, _, rfl, ⟨fun f => f, hpk⟩, of_lsts (by omega) fun j c e => ?_⟩
    obtain ⟨c0, xs, q1, q2⟩ := hcs j c e
    have hj : j < bs.length := by
      have := (List.getElem?_eq_some_iff.mp e).1
      omega
    obtain ⟨ds, xs', r1, r2, r3, r4⟩ := hb j _ (List.getElem?_eq_getElem hj)
    rw [q1] at r2
    cases r2
    exact ⟨ds, xs, r1, hk c _ q2 (fresh c c0), nols_keep hkeep _ _ (hd ds (List.mem_of_getElem? r1)).1 r4⟩
  refine ⟨k, ⟨F.K, fun _ => False, H', none, []⟩, fun _ => False, _, hF, ?_, hu⟩
  have noW : ∀ b, ¬ (⟨F.K, fun _ => False, H', none, []⟩ : Fx).W b := fun b ⟨_, _, e, _⟩ => by cases e
  exact {
    fr := FExt.refl _ _
    wb := fun b z => (noW b z).elim
    sub := fun _ z => z
    live := fun b z => z.elim
    so := fun a c e => by cases e
    len := by simp [cleanR, hlen, env.len]
    hl := fun p hp => by cases hp
    sl := fun i s hs => by
      by_cases hix : i = iX
      · subst hix
        rw [List.getElem?_set_self (by simp [cleanR]; exact hX)] at hs
        cases hs
      · rw [List.getElem?_set_ne (Ne.symm hix)] at hs
        rw [hσ i hix]
        by_cases hik : i = iK
        · subst hik
          rw [List.getElem?_set_self (by simp [cleanR]; exact hK)] at hs
          cases hs
          exact ⟨_, List.getElem?_set_self hK1, dnK⟩
        · rw [List.getElem?_set_ne (Ne.symm hik)] at hs
          rw [List.getElem?_set_ne (Ne.symm hik)]
          obtain ⟨d, rfl, nd, hr0⟩ := clean_get hs
          obtain ⟨w, hw, dw⟩ := env.sl i _ hr0
          exact ⟨w, hw, nol_keep hkeep d w nd dw⟩
    inj := fun i j s t w hi hj os _ _ _ => by
      exfalso
      by_cases hix : i = iX
      · subst hix
        rw [List.getElem?_set_self (by simp [cleanR]; exact hX)] at hi
        cases hi
      · rw [List.getElem?_set_ne (Ne.symm hix)] at hi
        by_cases hik : i = iK
        · subst hik
          rw [List.getElem?_set_self (by simp [cleanR]; exact hK)] at hi
          cases hi
          cases os
        · rw [List.getElem?_set_ne (Ne.symm hik)] at hi
          obtain ⟨d, rfl, _⟩ := clean_get hi
          cases os }
def Good2 (t : Rho → Prop) (m : Nat) : Prop := t (none :: some .src :: List.replicate m none)
theorem law_rest2 {rest : List Stmt} {t : Rho → Prop} {m : Nat} (h : LawOk X rest t) (g : Good2 t m) : PSs X rest (fun D_ σ H => ∃ (H0 : Hp) (p c : Addr) (v : Option V), σ = v :: some (.ref p) :: List.replicate m none ∧ H0 p = none ∧ H0 c = none ∧ SrcAt H p c ∧ Same H0 H ∧ ∀ H', D_.rt (.bl true) H') := by
  refine ⟨fun pins s σ H D_ I hq => ?_⟩
  obtain ⟨H0, p, c, v, rfl, hp, hc, sr, sm, k⟩ := hq
  refine h.run pins s _ H D_ I ⟨k, ⟨X.K, fun b => b = p ∨ b = c, H, some (p, c), []⟩, fun b => b = p ∨ b = c, _, rfl, ?_, g⟩
  have so : (⟨X.K, fun b => b = p ∨ b = c, H, some (p, c), []⟩ : Fx).SO H := fun a' c' e => by cases e; exact sr
  exact {
    fr := FExt.refl _ _
    wb := fun b ⟨a', c', e, z⟩ => by cases e; exact z
    sub := fun _ z => z
    live := fun b z => by
      obtain ⟨_, s, k, ns, h1, h2, _⟩ := sr
      rcases z with rfl | rfl
      · exact ⟨_, h1⟩
      · exact ⟨_, h2⟩
    so := so
    len := by simp
    hl := fun p hp => by cases hp
    sl := fun i s hs => by
      match i, hs with
      | 0, hs => simp at hs
      | 1, hs =>
        simp at hs
        subst hs
        exact ⟨_, rfl, p, c, rfl, rfl⟩
      | i + 2, hs =>
        simp only [List.getElem?_cons_succ, List.getElem?_replicate] at hs
        split at hs <;> cases hs
    inj := fun i j s t w hi hj os _ _ _ => by
      match i, hi with
      | 0, hs => simp at hs
      | 1, hs =>
        simp at hs
        subst hs
        cases os
      | i + 2, hs =>
        simp only [List.getElem?_cons_succ, List.getElem?_replicate] at hs
        split at hs <;> cases hs }
end
section
variable {ta tb : RE} {ρ : Rho} {q : D → Prop}
theorem x_djoin : djoin ta tb ρ q = ta ρ fun x => (match x with
  | .str a => tb ρ fun y => (match y with
    | .lst ds => (match strsD ds with
      | some ys => (ys.map (·.length)).sum + ys.length * a.length ≤ 16777216 ∧ q (.str (Txt.join a ys))
      | none => False)
    | _ => False)
  | _ => False) := rfl
theorem x_dsplit : dsplit ta tb ρ q = ta ρ fun x => (match x with
  | .str a => tb ρ fun y => (match y with
    | .str b => (b.length == 0) = false ∧ a.length + 2 ≤ sizeLine ∧ q (.lst ((Txt.split a b).map D.str))
    | _ => False)
  | _ => False) := rfl
theorem x_dprop {C : Addr} {tf : RF} : dprop C tf ta ρ q = ta ρ fun d => (match d with
  | .obj c ns ds => c = C ∧ tf [.im (.obj c ns ds)] q
  | _ => False) := rfl
theorem x_lawZ {t : RS} {u : Rho → Prop} : t (lawZ u) ρ = t ⟨u, fun d => d = .bl true, fun _ => False, fun _ => False⟩ ρ := rfl
theorem strs_map (ys : List Str) : strsD (ys.map D.str) = some ys := by
  induction ys with
  | nil => rfl
  | cons y ys ih => rw [List.map_cons, strsD, ih]; rfl
end
end DL

set_option Elab.async false
set_option linter.all false
set_option maxRecDepth 100000
set_option maxHeartbeats 4000000
/-! comprehensions over the keys of a dict that nobody changes, which they may read -/
namespace DL
open PySem L2
theorem lcQ_core {F : Fx} {E : Addr → Prop} {σ : St} {H1 : Hp} {ρ : Rho} {vs : List Nat} {T : Tg} {tt : RT} {te : RE} (hT : ∀ i ∈ T.slots, i ∈ vs) {p : Addr} {od : Obj} {u : HO} {us : List V} {ks : List D} {J : It} (env : DEnv F E σ H1 ρ) (h0 : F.H0 p = some (.frz od u)) (nW : ¬ F.W p)
    (Jg : ∀ i H, H p = some (.frz od u) → i < us.length → J.go i H) (Jy : ∀ i H x H', J.yld i H x H' → H' = H ∧ us[i]? = some x) (Js : ∀ i H, H p = some (.frz od u) → us.length ≤ i → J.stop i H)
    (hul : us.length = ks.length) (hh : ∀ z ∈ us.zip ks, z ∈ F.held) {q : List D → Prop} (hq : lcdo T tt te (wipeR ρ vs) ks [] q) {Q : VK}
    (k : ∀ acc, q acc → ∀ D xs H', XExt F H1 H' → H1 D = none → H' D = some (.lst xs) → DnA F.K (plus E D) H' acc xs → H' p = some (.frz od u) → Q (.ref D) H') :
    ∀ D, H1 D = none → ∃ W : Nat → Nat → Hp → Prop, (∃ m, W 0 m (upd H1 D (.lst []))) ∧ ∀ i m H, W i m H → (J.stop i H ∧ Q (.ref D) H) ∨ (J.go i H ∧ ∃ Nx : Hp → Prop, (∀ H', Nx H' → ∃ m', m' < m ∧ W (i + 1) m' H') ∧ ∀ x H', J.yld i H x H' →
      T.g F.K x (L2.wipe σ vs) H' fun σ2 H2 => L2.wipe σ2 vs = L2.wipe σ vs ∧ (∃ F' : Fx, F'.K = F.K ∧ liftT F' tt σ2 H2 fun b H3 => if b = true then (∃ F' : Fx, F'.K = F.K ∧ liftE F' te σ2 H3 fun y H4 => ∃ xs, H4 D = some (.lst xs) ∧ xs.length < sizeLine ∧ Nx (upd H4 D (.lst (xs ++ [y])))) else Nx H3)) := by
  intro D hD
  have xD : XExt F H1 (upd H1 D (.lst [])) := XExt.new env.so hD
  have e2 : DEnv F (plus E D) σ (upd H1 D (.lst [])) ρ := env.shut xD hD ⟨_, upd_same⟩
  have nED : ¬ E D := env.nE hD
  have nBD : ¬ F.B D := fun hB => nED (env.sub D hB)
  have h0D : F.H0 D = none := env.h0 hD
  have nWD : ¬ F.W D := fun w => nED (env.we w)
  have noSlot : ∀ (j : Nat) s, (wipeR ρ vs)[j]? = some (some s) → s.own = true → (L2.wipe σ vs)[j]? ≠ some (some (.ref D)) := fun j s hs os q => nED ((env.wipe vs).ownIn j s D hs os q)
  have frz : ∀ {E2 : Addr → Prop} {σ2 : St} {H2 : Hp} {ρ2 : Rho}, DEnv F E2 σ2 H2 ρ2 → H2 p = some (.frz od u) := fun e2 => e2.fr p _ h0 nW
  refine ⟨fun i m H => m = ks.length - i ∧ i ≤ ks.length ∧ FExt F.W H1 H ∧ DEnv F (plus E D) (L2.wipe σ vs) H (wipeR ρ vs) ∧ ∃ acc xs, H D = some (.lst xs) ∧ DnA F.K (plus E D) H acc xs ∧ lcdo T tt te (wipeR ρ vs) (ks.drop i) acc q,
    ⟨ks.length, rfl, Nat.zero_le _, xD.1, e2.wipe vs, [], [], upd_same, rfl, hq⟩, ?_⟩
  rintro i m H ⟨rfl, hi, fx, env', acc, xs, hDx, hacc, hr⟩
  have hz := frz env'
  by_cases hlt : i < ks.length
  · rw [List.drop_eq_getElem_cons hlt] at hr
    unfold lcdo at hr
    split at hr
    · rename_i ρ' hput
      refine .inr ⟨Jg i H hz (by omega), fun H' => FExt F.W H1 H' ∧ DEnv F (plus E D) (L2.wipe σ vs) H' (wipeR ρ vs) ∧ ∃ acc xs, H' D = some (.lst xs) ∧ DnA F.K (plus E D) H' acc xs ∧ lcdo T tt te (wipeR ρ vs) (ks.drop (i + 1)) acc q,
        fun H' z => ⟨_, Nat.sub_lt_sub_left hlt (Nat.lt_succ_self i), rfl, hlt, z⟩, fun x H2 hx => ?_⟩
      obtain ⟨rfl, hux⟩ := Jy i H x H2 hx
      have dx : Dn F.K (plus E D) H2 ks[i] x := env'.hl (x, ks[i]) (by
        refine hh _ ?_
        have hu2 : i < us.length := by omega
        rw [List.getElem?_eq_getElem hu2] at hux
        have : x = us[i] := (Option.some.inj hux).symm
        rw [this]
        exact List.mem_iff_getElem.mpr ⟨i, by rw [List.length_zip]; omega, by rw [List.getElem_zip]⟩)
      refine Tg.sem (F := F) T env' dx hput fun σ2 e3 sb => ⟨wipe_same sb hT, ?_⟩
      refine ⟨F, rfl, plus E D, ρ', _, e3, hr, fun b hb H3 x3 => ?_⟩
      have e4 := e3.step x3
      cases b with
      | true =>
        rw [if_pos rfl] at hb
        show if true = true then _ else _
        rw [if_pos rfl]
        refine ⟨F, rfl, plus E D, ρ', _, e4, hb, fun y hy v H4 x4 hvy => ?_⟩
        have x24 : XExt F H2 H4 := x3.trans x4
        have hD4 : H4 D = some (.lst xs) := x24.1 D _ hDx nWD
        have env4 := env'.step x24
        have hacc4 : DnA F.K (plus E D) H4 acc xs := env'.dna x24 hacc
        refine ⟨xs, hD4, by rw [hacc.len]; exact hy.1, ?_, ?_, acc ++ [y], xs ++ [v], upd_same, ?_, hy.2⟩
        · have f4 : FExt F.W H1 H4 := fx.trans x24.1
          exact fun b u qb w => by rw [upd_ne (ne_of_none qb hD)]; exact f4 b u qb w
        · exact env4.poke (.inr rfl) nBD h0D noSlot
        · have fe : FExt (plus E D) H4 (upd H4 D (.lst (xs ++ [v]))) := fun b u q hb => by rw [upd_ne (fun z : b = D => hb (.inr z))]; exact q
          exact DnA.ext fe _ _ (hacc4.app (DnA.one hvy))
      | false =>
        rw [if_neg Bool.false_ne_true] at hb
        show if false = true then _ else _
        rw [if_neg Bool.false_ne_true]
        exact ⟨fx.trans x3.1, env'.step x3, acc, xs, x3.1 D _ hDx nWD, env'.dna x3 hacc, hb⟩
    · exact hr.elim
  · have hil : i = ks.length := by omega
    rw [hil, List.drop_length] at hr
    exact .inl ⟨Js i H hz (by omega), k acc hr D xs H ⟨fx, env'.so⟩ hD hDx hacc hz⟩
/-- the frame while the dict at p is locked -/
def Fx.lk (F : Fx) (p : Addr) (od : Obj) (u : HO) (l : List (V × D)) : Fx := { F with H0 := upd F.H0 p (.frz od u), held := l ++ F.held }
theorem lk_in {F : Fx} {E : Addr → Prop} {σ : St} {H H1 : Hp} {ρ : Rho} {p : Addr} {od : Obj} {u : HO} {l : List (V × D)} (env : DEnv F E σ H ρ) (L : LkH p u H H1) (h1 : H1 p = some (.frz od u)) (nE : ¬ E p) (hl : ∀ q ∈ l, Dn F.K E H q.2 q.1) : DEnv (F.lk p od u l) E σ H1 ρ := by
  have e1 : DEnv { F with H0 := upd F.H0 p (.frz od u) } E σ H1 ρ := L.env (F := F) nE rfl rfl rfl rfl (fun b hb => upd_ne hb) (fun b o hb w => by
    by_cases z : b = p
    · subst z
      rw [← hb, h1]
      exact upd_same.symm
    · have hb' : upd F.H0 p (.frz od u) b = some o := hb
      rw [upd_ne z] at hb'
      rw [L.off b z]
      exact env.fr b o hb' w) env
  exact e1.holds (l := l) rfl fun q hq => L.dn _ _ (hl q hq)
theorem lk_out {F : Fx} {E : Addr → Prop} {σ : St} {H H1 H' H3 : Hp} {ρ : Rho} {p : Addr} {od : Obj} {u : HO} {l : List (V × D)} (env : DEnv F E σ H ρ) (nE : ¬ E p) (off1 : ∀ b, b ≠ p → H1 b = H b) (x : XExt (F.lk p od u l) H1 H') (h3 : H3 p = H p) (off3 : ∀ b, b ≠ p → H3 b = H' b) : XExt F H H3 := by
  refine ⟨fun b o hb w => ?_, (show F.SO H' from x.2).of fun b o w hb => ?_⟩
  · by_cases e : b = p
    · subst e; rw [h3]; exact hb
    · rw [off3 b e]
      exact x.1 b o (by rw [off1 b e]; exact hb) w
  · rw [off3 b fun z => nE (z ▸ env.we w)]; exact hb
def flcK (j : Nat) (vs : List Nat) (T : Tg) (tt : RT) (te : RE) : RL := fun ρ q => match ρ[j]? with
  | some (some (.im (.dct ks _))) => lcdo T tt te (wipeR ρ vs) ks [] q
  | _ => False
def iKeysO (td : TE) : TI := fun σ H R => td σ H fun x H1 => ∃ d o nk us ws, x = .ref d ∧ H1 d = some (.frz o (DictO d nk us ws)) ∧ R (ItO d o (DictO d nk us ws) us) H1
theorem lcQ_ {j : Nat} {vs0 : List Nat} {T : Tg} {tt : RT} {te : RE} {K : PySem.W.Frag} {F : Fx} (hF : F.K = K) (hT : ∀ i ∈ T.slots, i ∈ vs0) (σ : St) (H : Hp) (Q : VK) (h : liftF F (flcK j vs0 T tt te) σ H Q) :
    tLockE (tLc (iKeysO (tVar j)) (T.g K) (fun σ H Q => ∃ F' : Fx, F'.K = F.K ∧ liftT F' tt σ H Q) (fun σ H Q => ∃ F' : Fx, F'.K = F.K ∧ liftE F' te σ H Q) vs0) σ H Q ∨
    tLockE (tLc (iKeys (tVar j)) (T.g K) (fun σ H Q => ∃ F' : Fx, F'.K = F.K ∧ liftT F' tt σ H Q) (fun σ H Q => ∃ F' : Fx, F'.K = F.K ∧ liftE F' te σ H Q) vs0) σ H Q ∨
    tLc (iKeysO (tVar j)) (T.g K) (fun σ H Q => ∃ F' : Fx, F'.K = F.K ∧ liftT F' tt σ H Q) (fun σ H Q => ∃ F' : Fx, F'.K = F.K ∧ liftE F' te σ H Q) vs0 σ H Q ∨
    tLc (iKeys (tVar j)) (T.g K) (fun σ H Q => ∃ F' : Fx, F'.K = F.K ∧ liftT F' tt σ H Q) (fun σ H Q => ∃ F' : Fx, F'.K = F.K ∧ liftE F' te σ H Q) vs0 σ H Q := by
  obtain ⟨E, ρ, q, env, h, k⟩ := h
  unfold flcK at h
  split at h
  · rename_i ks vs hj
    obtain ⟨v, hvj, p, us, ws, ev, nE, dc, dk, dv⟩ := env.sl j _ hj
    subst ev
    have nW : ¬ F.W p := fun w => nE (env.sub p (env.wb p w))
    have hul : us.length = ks.length := dk.len
    have hel : ∀ z ∈ us.zip ks ++ [(V.ref p, DL.D.dct ks vs)], Dn F.K E H z.2 z.1 := fun z hz => by
      rcases List.mem_append.mp hz with hz | hz
      · exact DnA.zip dk z hz
      · obtain rfl := List.mem_singleton.mp hz
        exact ⟨p, us, ws, rfl, nE, dc, dk, dv⟩
    -- the way back
    have back : ∀ (u : HO) (od : Obj) (H1 H' H3 : Hp), (∀ b, b ≠ p → H1 b = H b) → ((∃ nk us ws, u = DictO p nk us ws) ∨ ∃ kvs, kvs ≠ [] ∧ u = .dK kvs) → Rd H3 p u → H3 p = H p → (∀ b, b ≠ p → H3 b = H' b) → ∀ acc, q acc → ∀ D xs, XExt (F.lk p od u (us.zip ks ++ [(V.ref p, DL.D.dct ks vs)])) H1 H' → H1 D = none → H1 p ≠ none → H' D = some (.lst xs) → DnA F.K (plus E D) H' acc xs → H' p = some (.frz od u) → Q (.ref D) H3 := by
      intro u od H1 H' H3 off1 hu r3 h3 off3 acc ha D xs x hD hp1 hDx hacc hz
      have nDp : D ≠ p := fun e => hp1 (e ▸ hD)
      have L : LkH p u H' H3 := ⟨off3, .inr ⟨od, hz⟩, r3, hu⟩
      exact k acc ha D xs H3 (lk_out env nE off1 x h3 off3) (by rw [← off1 D nDp]; exact hD) (by rw [off3 D nDp]; exact hDx) (L.dna _ _ hacc)
    rcases dc with ⟨kvs, hk, hus, _⟩ | ⟨hO, _, hne⟩
    · rcases hk with hk | ⟨ne, od, hk⟩
      · by_cases ne : kvs = []
        · -- nothing to walk
          subst ne
          have hk0 : ks = [] := by
            have : us.length = 0 := by rw [hus]; rfl
            exact List.eq_nil_of_length_eq_zero (by omega)
          subst hk0
          refine .inr (.inl ⟨p, _, hk, trivial, fun od => ⟨_, hvj, p, od, rfl, .inl ⟨[], upd_same, fun D hD => ⟨fun i m H1 => i = 0 ∧ H1 = upd (upd H p (.frz od (.dK []))) D (.lst []), ⟨0, rfl, rfl⟩, ?_⟩⟩⟩⟩)
          rintro i m H1 ⟨rfl, rfl⟩
          have nDp : D ≠ p := fun e => by rw [e, upd_same] at hD; cases hD
          have hD' : H D = none := by rw [upd_ne nDp] at hD; exact hD
          have hz : upd (upd H p (.frz od (.dK []))) D (.lst []) p = some (.frz od (.dK [])) := by rw [upd_ne (Ne.symm nDp)]; exact upd_same
          refine .inl ⟨⟨hz, Nat.le_refl _⟩, hz, ?_⟩
          have e : upd (upd (upd H p (.frz od (.dK []))) D (.lst [])) p (.dK []) = upd H D (.lst []) := by
            funext b
            by_cases e1 : b = p
            · subst e1; rw [upd_same, upd_ne (Ne.symm nDp), hk]
            · by_cases e2 : b = D
              · subst e2; rw [upd_ne e1, upd_same, upd_same]
              · rw [upd_ne e1, upd_ne e2, upd_ne e1, upd_ne e2]
          rw [e]
          exact k [] h D [] _ (XExt.new env.so hD') hD' upd_same rfl
        · have L : ∀ od, LkH p (.dK kvs) H (upd H p (.frz od (.dK kvs))) := fun od => ⟨fun b hb => upd_ne hb, .inl hk, .inr ⟨od, upd_same⟩, .inr ⟨kvs, ne, rfl⟩⟩
          refine .inr (.inl ⟨p, _, hk, trivial, fun od => ⟨_, hvj, p, od, rfl, .inl ⟨kvs, upd_same, ?_⟩⟩⟩)
          rw [← hF]
          refine lcQ_core (F := F.lk p od (.dK kvs) (us.zip ks ++ [(V.ref p, DL.D.dct ks vs)])) (us := us) (ks := ks) (Q := fun v H' => H' p = some (.frz od (.dK kvs)) ∧ Q v (upd H' p (.dK kvs))) hT (lk_in env (L od) upd_same nE hel) upd_same nW ?_ ?_ ?_ hul (fun z hz => List.mem_append_left _ (List.mem_append_left _ hz)) h ?_
          · intro i H' hz hi; exact ⟨hz, by rw [hus, List.length_map] at hi; exact hi⟩
          · rintro i H' x H2 ⟨e, kk, v, hkv, rfl⟩; exact ⟨e, by rw [hus, List.getElem?_map, hkv]; rfl⟩
          · intro i H' hz hi; exact ⟨hz, by rw [hus, List.length_map] at hi; exact hi⟩
          · intro acc ha D xs H' x hD hDx hacc hz
            exact ⟨hz, back _ od _ _ _ (fun b hb => upd_ne hb) (.inr ⟨kvs, ne, rfl⟩) (.inl upd_same) (by rw [upd_same, hk]) (fun b hb => upd_ne hb) acc ha D xs x hD (by rw [upd_same]; simp) hDx hacc hz⟩
      · have L : LkH p (.dK kvs) H H := ⟨fun b hb => rfl, .inr ⟨od, hk⟩, .inr ⟨od, hk⟩, .inr ⟨kvs, ne, rfl⟩⟩
        refine .inr (.inr (.inr ⟨_, hvj, p, od, rfl, .inl ⟨kvs, hk, ?_⟩⟩))
        rw [← hF]
        refine lcQ_core (F := F.lk p od (.dK kvs) (us.zip ks ++ [(V.ref p, DL.D.dct ks vs)])) (us := us) (ks := ks) hT (lk_in env L hk nE hel) upd_same nW ?_ ?_ ?_ hul (fun z hz => List.mem_append_left _ (List.mem_append_left _ hz)) h ?_
        · intro i H' hz hi; exact ⟨hz, by rw [hus, List.length_map] at hi; exact hi⟩
        · rintro i H' x H2 ⟨e, kk, v, hkv, rfl⟩; exact ⟨e, by rw [hus, List.getElem?_map, hkv]; rfl⟩
        · intro i H' hz hi; exact ⟨hz, by rw [hus, List.length_map] at hi; exact hi⟩
        · intro acc ha D xs H' x hD hDx hacc hz
          exact back _ od _ _ _ (fun b hb => rfl) (.inr ⟨kvs, ne, rfl⟩) (.inr ⟨od, hz⟩) (by rw [hz, hk]) (fun b hb => rfl) acc ha D xs x hD (by rw [hk]; simp) hDx hacc hz
    · have hd : (∃ nk us' ws', DictO p (DL.D.keys ks) us ws = DictO p nk us' ws') ∨ ∃ kvs, kvs ≠ [] ∧ DictO p (DL.D.keys ks) us ws = .dK kvs := .inl ⟨_, _, _, rfl⟩
      rcases hO with hO | ⟨od, hO⟩
      · have L : ∀ od, LkH p (DictO p (DL.D.keys ks) us ws) H (upd H p (.frz od (DictO p (DL.D.keys ks) us ws))) := fun od => ⟨fun b hb => upd_ne hb, .inl hO, .inr ⟨od, upd_same⟩, hd⟩
        refine .inl ⟨p, _, hO, trivial, fun od => ⟨_, hvj, p, od, _, us, ws, rfl, upd_same, ?_⟩⟩
        rw [← hF]
        refine lcQ_core (F := F.lk p od (DictO p (DL.D.keys ks) us ws) (us.zip ks ++ [(V.ref p, DL.D.dct ks vs)])) (us := us) (ks := ks) (Q := fun v H' => H' p = some (.frz od (DictO p (DL.D.keys ks) us ws)) ∧ Q v (upd H' p (DictO p (DL.D.keys ks) us ws))) hT (lk_in env (L od) upd_same nE hel) upd_same nW ?_ ?_ ?_ hul (fun z hz => List.mem_append_left _ (List.mem_append_left _ hz)) h ?_
        · intro i H' hz hi; exact ⟨hz, hi⟩
        · rintro i H' x H2 ⟨e, hx⟩; exact ⟨e, hx⟩
        · intro i H' hz hi; exact ⟨hz, hi⟩
        · intro acc ha D xs H' x hD hDx hacc hz
          exact ⟨hz, back _ od _ _ _ (fun b hb => upd_ne hb) hd (.inl upd_same) (by rw [upd_same, hO]) (fun b hb => upd_ne hb) acc ha D xs x hD (by rw [upd_same]; simp) hDx hacc hz⟩
      · have L : LkH p (DictO p (DL.D.keys ks) us ws) H H := ⟨fun b hb => rfl, .inr ⟨od, hO⟩, .inr ⟨od, hO⟩, hd⟩
        refine .inr (.inr (.inl ⟨_, hvj, p, od, _, us, ws, rfl, hO, ?_⟩))
        rw [← hF]
        refine lcQ_core (F := F.lk p od (DictO p (DL.D.keys ks) us ws) (us.zip ks ++ [(V.ref p, DL.D.dct ks vs)])) (us := us) (ks := ks) hT (lk_in env L hO nE hel) upd_same nW ?_ ?_ ?_ hul (fun z hz => List.mem_append_left _ (List.mem_append_left _ hz)) h ?_
        · intro i H' hz hi; exact ⟨hz, hi⟩
        · rintro i H' x H2 ⟨e, hx⟩; exact ⟨e, hx⟩
        · intro i H' hz hi; exact ⟨hz, hi⟩
        · intro acc ha D xs H' x hD hDx hacc hz
          exact back _ od _ _ _ (fun b hb => rfl) hd (.inr ⟨od, hz⟩) (by rw [hz, hO]) (fun b hb => rfl) acc ha D xs x hD (by rw [hO]; simp) hDx hacc hz
  · exact h.elim
section
variable {X : Cx} {tg iter elt : Expr} {ifs : List Expr} {pos : Pos}
theorem f_lcK {j : Nat} {scope : Scope} {own : List (Str × Nat)} {T : Tg} {tt : RT} {te : RE} (hc : X.calm = true) (hN : X.N.Nodup) (hv : PE X iter (tVar j)) (ok : BlkOk X.N X.env.scope scope own) (hT : ∀ i ∈ T.slots, i ∈ own.map (·.2))
    (hg : ∀ (s : Shared) (H : Hp) (C : Addr) (cl : List (Str × Addr)) (fp : List Addr), GD (X.blk s H scope (compEnvC scope cl C X.env) fp) tg T) (ht : ∀ (s : Shared) (H : Hp) (C : Addr) (cl : List (Str × Addr)) (fp : List Addr), TsD (X.blk s H scope (compEnvC scope cl C X.env) fp) ifs tt)
    (he : ∀ (s : Shared) (H : Hp) (C : Addr) (cl : List (Str × Addr)) (fp : List Addr), ED (X.blk s H scope (compEnvC scope cl C X.env) fp) elt te) (hs : ∀ x, foldedSetIterable iter X.env x = pure x := by intro _; rfl) :
    FD X (.ListComp elt [⟨tg, iter, ifs, 0⟩] scope pos) (flcK j (own.map (·.2)) T tt te) := fun F hF => by
  have ht' : ∀ (s : Shared) (H : Hp) (C : Addr) (cl : List (Str × Addr)) (fp : List Addr), PTs (X.blk s H scope (compEnvC scope cl C X.env) fp) ifs (fun σ H Q => ∃ F' : Fx, F'.K = F.K ∧ liftT F' tt σ H Q) := fun s H C cl fp => ⟨fun pins s' σ H' Q I ⟨F', hK, q⟩ => (ht s H C cl fp F' (hK.trans hF)).run pins s' σ H' Q I q⟩
  have he' : ∀ (s : Shared) (H : Hp) (C : Addr) (cl : List (Str × Addr)) (fp : List Addr), PE (X.blk s H scope (compEnvC scope cl C X.env) fp) elt (fun σ H Q => ∃ F' : Fx, F'.K = F.K ∧ liftE F' te σ H Q) := fun s H C cl fp => ⟨fun pins s' σ H' Q I ⟨F', hK, q⟩ => (he s H C cl fp F' (hK.trans hF)).run pins s' σ H' Q I q⟩
  have A := pe_lc (g := T.g X.K) (pos := pos) hc hN (pi_keysO (tg := tg) hv) ok (fun s H C cl fp => hg s H C cl fp) ht' he' hs
  have B := pe_lc (g := T.g X.K) (pos := pos) hc hN (pi_keys (tg := tg) hv) ok (fun s H C cl fp => hg s H C cl fp) ht' he' hs
  have A' := pe_lock A
  have B' := pe_lock B
  exact PE.imp (t := fun σ H Q => _ ∨ _ ∨ _ ∨ _) ⟨fun pins s σ H Q I q => q.elim (A'.run pins s σ H Q I) fun q => q.elim (B'.run pins s σ H Q I) fun q => q.elim (A.run pins s σ H Q I) (B.run pins s σ H Q I)⟩ fun σ H Q h => lcQ_ hF hT σ H Q h
/-- x = [..] in one line -/
theorem s_setLcK {i j : Nat} {y : Str} {py spos : Pos} {scope : Scope} {own : List (Str × Nat)} {T : Tg} {tt : RT} {te : RE} (hc : X.calm = true) (hN : X.N.Nodup) (hy : X.N[i]? = some y) (hyl : X.env.scope.names.lookup y = some .local)
    (hsw : swapsWith (.ListComp elt [⟨tg, iter, ifs, 0⟩] scope pos) (some (.Name y py)) spos.line X.env = pure true) (hv : PE X iter (tVar j)) (ok : BlkOk X.N X.env.scope scope own) (hT : ∀ i ∈ T.slots, i ∈ own.map (·.2))
    (hg : ∀ (s : Shared) (H : Hp) (C : Addr) (cl : List (Str × Addr)) (fp : List Addr), GD (X.blk s H scope (compEnvC scope cl C X.env) fp) tg T) (ht : ∀ (s : Shared) (H : Hp) (C : Addr) (cl : List (Str × Addr)) (fp : List Addr), TsD (X.blk s H scope (compEnvC scope cl C X.env) fp) ifs tt)
    (he : ∀ (s : Shared) (H : Hp) (C : Addr) (cl : List (Str × Addr)) (fp : List Addr), ED (X.blk s H scope (compEnvC scope cl C X.env) fp) elt te) (hs : ∀ x, foldedSetIterable iter X.env x = pure x := by intro _; rfl) :
    SD X (.Assign [.Name y py] (.ListComp elt [⟨tg, iter, ifs, 0⟩] scope pos) spos) (sset i (flst_ (flcK j (own.map (·.2)) T tt te))) := fun F hF => by
  have ht' : ∀ (s : Shared) (H : Hp) (C : Addr) (cl : List (Str × Addr)) (fp : List Addr), PTs (X.blk s H scope (compEnvC scope cl C X.env) fp) ifs (fun σ H Q => ∃ F' : Fx, F'.K = F.K ∧ liftT F' tt σ H Q) := fun s H C cl fp => ⟨fun pins s' σ H' Q I ⟨F', hK, q⟩ => (ht s H C cl fp F' (hK.trans hF)).run pins s' σ H' Q I q⟩
  have he' : ∀ (s : Shared) (H : Hp) (C : Addr) (cl : List (Str × Addr)) (fp : List Addr), PE (X.blk s H scope (compEnvC scope cl C X.env) fp) elt (fun σ H Q => ∃ F' : Fx, F'.K = F.K ∧ liftE F' te σ H Q) := fun s H C cl fp => ⟨fun pins s' σ H' Q I ⟨F', hK, q⟩ => (he s H C cl fp F' (hK.trans hF)).run pins s' σ H' Q I q⟩
  have A := ps_setLc (g := T.g X.K) (pos := pos) hc hN hy hyl hsw (pi_keysO (tg := tg) hv) ok (fun s H C cl fp => hg s H C cl fp) ht' he' hs
  have B := ps_setLc (g := T.g X.K) (pos := pos) hc hN hy hyl hsw (pi_keys (tg := tg) hv) ok (fun s H C cl fp => hg s H C cl fp) ht' he' hs
  have A' := ps_lock A
  have B' := ps_lock B
  refine PS.imp (t := fun D σ H => _ ∨ _ ∨ _ ∨ _) ⟨fun pins s σ H D I q => q.elim (A'.run pins s σ H D I) fun q => q.elim (B'.run pins s σ H D I) fun q => q.elim (A.run pins s σ H D I) (B.run pins s σ H D I)⟩ fun D_ σ H => ?_
  rintro ⟨E, ρ, Z, env, h, sv⟩
  exact lcQ_ (Q := fun x H1 => D_.nx (σ.set i (some x)) H1) hF hT σ H ⟨E, ρ, _, env, h, fun ds hd p xs H1 x1 hp hp' ha => sv.nx _ hd E _ H1 ((env.step x1).set ⟨p, xs, rfl, ⟨env.nE hp, hp'⟩, DnA.less (fun _ => .inl) _ _ ha⟩)⟩
end
end DL

set_option Elab.async false
set_option linter.all false
set_option maxRecDepth 100000
set_option maxHeartbeats 4000000
/-! dict comprehensions -/
namespace DL
open PySem L2 PySem.Spec PyProof.Rows
section
variable {X : Cx} {pins : List (Addr × Obj)} {σ : L2.St} {H : Hp} {s : Shared} {E : Addr → Prop} {a : Addr} {ks vs : List D} {us ws : List V} {x : D} {y : V} {u : Value} {Eo : Value → Shared → Prop}
/-- d[y] = v by a comprehension -/
theorem dv_dset {Q : Unit → Shared → Prop} {v : V} {r : Value} (hu : X.A.units + 64 < cLine) (I : Inv X pins σ H s) (dc : DcM H a ks us ws) (dk : DnA X.K E H ks us) (hl : ws.length = ks.length) (hlt : ks.length < sizeLine) (hx : Dn X.K E H x y) (ry : RelV y u) (rv : RelV v r) (ok : kok ks x = true)
    (h : ∀ ob s', Inv X pins σ (upd H a ob) s' → (∀ H', H' a = some ob → DcM H' a (kputK ks x) (putU ks x us y) (putW ks x ws v)) → Q () s') : wpAny (model X.prog X.w) X.A (dictSet a u r) Q Eo s := by
  unfold kok at ok
  rw [Bool.or_eq_true, Bool.and_eq_true, Bool.and_eq_true] at ok
  rcases ok with ⟨o1, o2⟩ | ⟨o1, o2⟩
  · obtain ⟨kvs, h1, h2, h3, h4, h5⟩ := dct_kv o2 dc.rd dk
    have h1 : H a = some (.dK kvs) := by
      rcases dc with ⟨kvs', z, _⟩ | ⟨z, _⟩
      · rcases h1 with h1 | ⟨o, h1⟩
        · exact h1
        · rw [z] at h1; cases h1
      · rcases h1 with h1 | ⟨o, h1⟩
        · exact h1
        · rw [z] at h1; cases h1
    obtain ⟨k, hk⟩ := Option.isSome_iff_exists.mp o1
    have ey := kk_of hx hk
    subst ey
    have hkl : kvs.length = ks.length := by rw [← hl, h3, List.length_map]
    refine d_dictSet (k := k) I h1 (by omega) ry rv fun s' I' => h _ s' I' fun H' hH' => .inl ⟨putK kvs k v, hH', ?_⟩
    have q0 := kix_kv h5 hk
    have hany : (kvs.any fun kv => decide (kv.1 = k)) = (kix ks x).isSome := by
      rw [valV_any, valV_ix, ← q0]
      cases q : kix ks x with
      | none => rfl
      | some i =>
        have hi := kix_lt q
        have : i < (kvs.map (·.2)).length := by rw [List.length_map]; omega
        rw [Option.bind_some, List.getElem?_eq_getElem this]; rfl
    unfold putU putW putK
    rw [hany]
    cases q : kix ks x with
    | none =>
      rw [if_neg (by simp)]
      rw [q] at q0
      refine ⟨by rw [List.map_append, h2]; rfl, by rw [List.map_append, h3]; rfl, ?_⟩
      rw [List.map_append, List.nodup_append]
      refine ⟨h4, by simp, fun z hz z' hz' e => ?_⟩
      simp at hz'
      rw [hz'] at e
      rw [e] at hz
      exact ix_none q0.symm hz
    | some i =>
      rw [if_pos (show (some i).isSome = true from rfl)]
      rw [q] at q0
      have hi := kix_lt q
      have hik : i < kvs.length := by omega
      have e := map_ix (·.1) k (fun kv => (kv.1, v)) kvs i kvs[i] h4 q0.symm (List.getElem?_eq_getElem hik)
      rw [e]
      have hk1 : (kvs.map (·.1))[i]? = some k := ix_some q0.symm
      rw [List.getElem?_map, List.getElem?_eq_getElem hik] at hk1
      have hk2 : kvs[i].1 = k := Option.some.inj hk1
      have same : ∀ {β : Type} (g : L2.Key → β), (kvs.set i (kvs[i].1, v)).map (fun p => g p.1) = kvs.map (fun p => g p.1) := fun g => by
        rw [List.map_set]
        apply List.ext_getElem?
        intro j
        by_cases ej : j = i
        · subst ej
          rw [List.getElem?_set_self (by rw [List.length_map]; exact hik), List.getElem?_map, List.getElem?_eq_getElem hik]; rfl
        · rw [List.getElem?_set_ne (Ne.symm ej)]
      refine ⟨by rw [h2]; exact (same kV).symm, by rw [h3, List.map_set], ?_⟩
      have := same (fun z => z)
      rw [this]
      exact h4
  · obtain ⟨xs, e1, e2, rw', hd, hsz, dd⟩ := dct_heap I o2 dc.rd dk
    obtain ⟨b, rfl, hb, hh⟩ := tkey_of I o1 hx
    obtain rfl : u = Value.ref b := ry
    have hxl : xs.length = ks.length := by
      have := congrArg List.length e1
      rwa [List.length_map, keys_len] at this
    have hus : us.length = ks.length := dk.len
    obtain ⟨ep1, ep2⟩ := keys_is I o2 dk e1 e2
    refine wpAny_dictSet_heap (hsz := hsz) (show X.A.units + 8 < cLine by omega) hb dd fun h' dd' hs => ?_
    have mu : Mut (H a) := by
      rcases dc with ⟨kvs, z, _⟩ | ⟨z, _⟩
      · rw [z]; exact True.intro
      · rw [z]; exact True.intro
    obtain ⟨q, es, epp, hq, h2, h3, h4, h5, h6⟩ := dd'
    have key : storedH xs x.key b r = (match kix ks x with | some i => (match xs[i]? with | some p => xs.set i (p.1, p.2.1, r) | none => xs) | none => xs ++ [(x.key, b, r)]) := by
      have ha := atKey_ix (x := x) e1
      cases qk : kix ks x with
      | none => rw [qk] at ha; exact storedH_new ha b r
      | some i =>
        have hi := kix_lt qk
        have hix : i < xs.length := by omega
        rw [qk, Option.bind_some, List.getElem?_eq_getElem hix] at ha
        rw [storedH_old ha]
        simp only []
        rw [List.getElem?_eq_getElem hix]
        have nd : (xs.map (·.1)).Nodup := by obtain ⟨_, _, _, _, _, _, _, _, z⟩ := dd; exact z
        have e := map_ix (·.1) x.key (fun p => (p.1, p.2.1, r)) xs i xs[i] nd (by rw [e1]; exact qk) (List.getElem?_eq_getElem hix)
        exact e
    have ent : ∀ l : List (NestedKey × Addr × Value), (∀ z ∈ l, NestedKey.hash X.w z.1 = hash0 z.1) → l.map (entryOfKey (nestedKind X.prog X.w)) = l.map ent0 := fun l hl => List.map_congr_left fun z hz => by
      unfold ent0 entryOfKey
      show (⟨NestedKey.hash X.w z.1, _, _⟩ : DictEntry) = _
      rw [hl z hz]
    have hfree : ∀ z ∈ xs, NestedKey.hash X.w z.1 = hash0 z.1 := fun z hz => by
      have hz1 : z.1 ∈ D.keys ks := by rw [← e1]; exact List.mem_map.mpr ⟨z, hz, rfl⟩
      rw [keys_map] at hz1
      obtain ⟨d, hd1, hd2⟩ := List.mem_map.mp hz1
      have := List.all_eq_true.mp o2 d hd1
      rw [← hd2]
      cases d with
      | tup zs => exact hash_free _ 8 _ this
      | _ => exact absurd (show false = true from this) Bool.false_ne_true
    have fin : ∀ (ob : HO), ob = DictO a (D.keys (kputK ks x)) (putU ks x us (.ref b)) (putW ks x ws v) → (∃ xs' : List (NestedKey × Addr × Value), xs'.map (·.1) = D.keys (kputK ks x) ∧ (D.keys (kputK ks x)).Nodup ∧ xs'.map (fun z => V.ref z.2.1) = putU ks x us (.ref b) ∧ Vals (putW ks x ws v) (xs'.map (·.2.2)) ∧ es.toList = xs'.map ent0) →
        (putU ks x us (.ref b)).length ≤ sizeLine → (kputK ks x).all D.tkey = true → kputK ks x ≠ [] → Q () { s with heap := h', toks := s.toks + (nestedKind X.prog X.w).draws x.key } := fun ob eo ⟨xs', f1, f2, f3, f4, f5⟩ hlen htk hne => by
      refine h ob _ (d_write I mu hs ⟨q, hq⟩ ?_) fun H' hH' => .inr ⟨by rw [hH', eo], htk, hne⟩
      rw [eo]
      refine ⟨⟨hd, hlen, xs', f1, f2, f3, f4, q, es, epp, hq, h2, h3, f5⟩, ⟨q, hq⟩, fun g1 g2 ⟨c1, c2, xs2, c3, c4, c5, c6, o', es', ep', c7, c8⟩ k => ⟨c1, c2, xs2, c3, c4, c5, c6, o', es', ep', k _ c7, c8⟩⟩
    cases qk : kix ks x with
    | none =>
      have ek : kputK ks x = ks ++ [x] := by unfold kputK; rw [qk]
      have eu : putU ks x us (.ref b) = us ++ [.ref b] := by unfold putU; rw [qk]
      have ew : putW ks x ws v = ws ++ [v] := by unfold putW; rw [qk]
      have edk : D.keys (ks ++ [x]) = D.keys ks ++ [x.key] := by rw [keys_map, keys_map, List.map_append]; rfl
      refine fin _ rfl ⟨xs ++ [(x.key, b, r)], ?_, ?_, ?_, ?_, ?_⟩ ?_ ?_ ?_
      · rw [ek, edk, List.map_append, e1]; rfl
      · rw [ek, edk, ← e1]
        rw [key, qk] at h6
        simpa using h6
      · rw [eu, List.map_append, e2]; rfl
      · rw [ew, List.map_append]; exact Vals.app1 rw' rv
      · rw [h4, key, qk]
        refine ent _ fun z hz => ?_
        rcases List.mem_append.mp hz with hz | hz
        · exact hfree z hz
        · rw [List.mem_singleton.mp hz]; exact hh
      · rw [eu, List.length_append, List.length_singleton]; omega
      · rw [ek, List.all_append, o2]; simp [o1]
      · rw [ek]; simp
    | some i =>
      have hi := kix_lt qk
      have hix : i < xs.length := by omega
      have ek : kputK ks x = ks := by unfold kputK; rw [qk]
      have eu : putU ks x us (.ref b) = us := by unfold putU; rw [qk]
      have ew : putW ks x ws v = ws.set i v := by unfold putW; rw [qk]
      have key' : storedH xs x.key b r = xs.set i (xs[i].1, xs[i].2.1, r) := by rw [key, qk]; simp only []; rw [List.getElem?_eq_getElem hix]
      have same : ∀ {β : Type} (g : NestedKey × Addr × Value → β), g (xs[i].1, xs[i].2.1, r) = g xs[i] → (xs.set i (xs[i].1, xs[i].2.1, r)).map g = xs.map g := fun g eg => by
        rw [List.map_set]
        apply List.ext_getElem?
        intro j
        by_cases ej : j = i
        · subst ej
          rw [List.getElem?_set_self (by rw [List.length_map]; exact hix), List.getElem?_map, List.getElem?_eq_getElem hix, eg]; rfl
        · rw [List.getElem?_set_ne (Ne.symm ej)]
      refine fin _ rfl ⟨xs.set i (xs[i].1, xs[i].2.1, r), ?_, ?_, ?_, ?_, ?_⟩ ?_ ?_ ?_
      · rw [ek, ← e1]; exact same (·.1) rfl
      · rw [ek, ← e1]
        rw [key', same (·.1) rfl] at h6
        exact h6
      · rw [eu, ← e2]; exact same _ rfl
      · rw [ew, List.map_set]; exact rw'.set rv i
      · rw [h4, key']
        refine ent _ fun z hz => ?_
        rcases List.mem_or_eq_of_mem_set hz with hz | hz
        · exact hfree z hz
        · rw [hz]; exact hfree xs[i] (List.getElem_mem hix)
      · rw [eu]; omega
      · rw [ek]; exact o2
      · rw [ek]; intro z; rw [z] at hi; cases hi
end
section
variable {X : Cx}
/-- what is put into the new dict at B -/
def DPutO (X : Cx) (B : Addr) (y z : V) (H5 : Hp) (Nx : Hp → Prop) : Prop := ∃ (ks : List D) (us ws : List V) (E : Addr → Prop) (x : D), DcM H5 B ks us ws ∧ DnA X.K E H5 ks us ∧ Dn X.K E H5 x y ∧ kok ks x = true ∧ ks.length < sizeLine ∧
  ∀ ob, (∀ H', H' B = some ob → DcM H' B (kputK ks x) (putU ks x us y) (putW ks x ws z)) → Nx (upd H5 B ob)
def tDcO (X : Cx) (wi : TI) (g : TG) (tt : TT) (tk tv : TE) (vs : List Nat) : TE := fun σ H Q => wi σ H fun J H1 => ∀ B, H1 B = none → ∃ W : Nat → Nat → Hp → Prop, (∃ m, W 0 m (upd H1 B (.dK []))) ∧ ∀ i m H, W i m H →
  (J.stop i H ∧ Q (.ref B) H) ∨ (J.go i H ∧ ∃ Nx : Hp → Prop, (∀ H', Nx H' → ∃ m', m' < m ∧ W (i + 1) m' H') ∧ ∀ x H', J.yld i H x H' → g x (wipe σ vs) H' fun σ2 H2 => wipe σ2 vs = wipe σ vs ∧ tt σ2 H2 fun b H3 =>
    if b = true then tk σ2 H3 fun y H4 => tv σ2 H4 fun z H5 => DPutO X B y z H5 Nx else Nx H3)
theorem pe_dcO {k : Nat} {kx vx tg iter : Expr} {ifs : List Expr} {scope : Scope} {own : List (Str × Nat)} {pos : Pos} {wi : TI} {g : TG} {tt : TT} {tk tv : TE} (hr : Room k X.A) (hc : X.calm = true) (hN : X.N.Nodup) (hi : PI X tg iter wi) (ok : BlkOk X.N X.env.scope scope own)
    (hg : ∀ (r : Shared) (G : Hp) (C : Addr) (cl : List (Str × Addr)) (fp : List Addr), PG (X.blk r G scope (compEnvC scope cl C X.env) fp) tg g) (ht : ∀ (r : Shared) (G : Hp) (C : Addr) (cl : List (Str × Addr)) (fp : List Addr), PTs (X.blk r G scope (compEnvC scope cl C X.env) fp) ifs tt)
    (hk : ∀ (r : Shared) (G : Hp) (C : Addr) (cl : List (Str × Addr)) (fp : List Addr), PE (X.blk r G scope (compEnvC scope cl C X.env) fp) kx tk)
    (he : ∀ (r : Shared) (G : Hp) (C : Addr) (cl : List (Str × Addr)) (fp : List Addr), PE (X.blk r G scope (compEnvC scope cl C X.env) fp) vx tv) (hs : ∀ x, foldedSetIterable iter X.env x = pure x := by intro _; rfl) :
    PE X (.DictComp kx vx [⟨tg, iter, ifs, 0⟩] scope pos) (tDcO X wi g tt tk tv (own.map (·.2))) := by
  refine ⟨fun pins s σ H Q I h => ?_⟩
  rw [arm_eval_DictComp]
  have free : ∀ y ∈ scope.names, y.2 = .free → ∃ c, X.env.cells.lookup y.1 = some c := fun y hy e => (ok.free y hy e).elim (fun z => I.ok.has _ (.inl z)) fun z => I.ok.has _ (.inr z)
  refine wpAny_comprehension_free rfl hs (closure_ok free) ok.kind (fun y hy e => by rw [ok.uniq y hy, e]) (thn (hi.run pins s σ H _ I h) fun xv r1 hx => thn hx fun itv r2 h2 => ?_)
  obtain ⟨it, fp, tn, J, G2, e, J2, T, st2, f2, q⟩ := h2
  subst e
  refine wpAny_newObj_type (newEnv_comp ?_)
  generalize hB : r2.heap.objs.size = B
  have hBn : G2 B = none := J2.hok.fresh (Nat.le_of_eq hB)
  obtain ⟨W, ⟨m0, w0⟩, turn⟩ := q B hBn
  generalize hr3 : ({ r2 with heap := r2.heap.push { cls := .type "dict", data := .dict #[] } } : Shared) = r3
  have J3 : Inv X pins σ (upd G2 B (.dK [])) r3 := by
    rw [← hr3]
    refine J2.laid (t' := r2.toks) (fun b o e => Heap.get?_push_of_some _ e) (Nat.le_of_eq hB) ?_
    rw [← hB]
    exact dk_empty r2.heap J2.big
  have eh : r3.heap = r2.heap.push { cls := .type "dict", data := .dict #[] } := by rw [← hr3]
  have small : ∀ b ∈ fp, b < r2.heap.objs.size := fun b hb => by
    obtain ⟨o, eo, _⟩ := T.obj _ _ st2 b hb
    exact Heap.lt_size eo
  have f3 : ∀ b ∈ fp, FpOk X pins (upd G2 B (.dK [])) b ∧ b < r3.heap.objs.size := fun b hb => by
    have lt := small b hb
    exact ⟨⟨by rw [upd_ne (by rw [← hB]; exact Nat.ne_of_lt lt)]; exact (f2 b hb).1, (f2 b hb).2⟩, by rw [eh, Heap.size_push]; exact Nat.lt_succ_of_lt lt⟩
  have st3 : tn 0 r3.heap := T.keep _ _ _ st2 fun b _ o e => by rw [eh]; exact Heap.get?_push_of_some _ e
  have J4 := block_start J3 ok hN f3
  have pg := hg r3 (upd G2 B (.dK [])) r3.heap.objs.size (cellsFrom (r3.heap.objs.size + 1) scope.names (cloFrom X.env.cells scope.names [])) fp
  have pt := ht r3 (upd G2 B (.dK [])) r3.heap.objs.size (cellsFrom (r3.heap.objs.size + 1) scope.names (cloFrom X.env.cells scope.names [])) fp
  have pk := hk r3 (upd G2 B (.dK [])) r3.heap.objs.size (cellsFrom (r3.heap.objs.size + 1) scope.names (cloFrom X.env.cells scope.names [])) fp
  have pv' := he r3 (upd G2 B (.dK [])) r3.heap.objs.size (cellsFrom (r3.heap.objs.size + 1) scope.names (cloFrom X.env.cells scope.names [])) fp
  have fin0 : ∀ (r' : Shared) (m : Str → Option Value) (G' : Hp), Inv X pins σ G' r' → Q (.ref B) G' → r'.heap.Ns r3.heap.objs.size m → FpOk X pins G' r3.heap.objs.size → compPost (model X.prog X.w) X.A X.xe none (EP X pins σ Q) (.ref B) r3.heap.objs.size (.ok .next) r' := fun r' m G' J' qq nn f => ⟨m, nn, fun h'' sb => by
    obtain ⟨g0, g1, g2, g3, g4, g5⟩ := f
    exact ⟨.ref B, G', J'.turned (t' := r'.toks) (fun b o hb e => (sb.2 b hb).trans e) g0 g1 g3 g4 g5, rfl, qq⟩⟩
  show codeAny _ _ (.compStart (.DictComp kx vx [⟨tg, iter, ifs, 0⟩] scope pos) 0 (.ref it) (.ref B) (compEnvC scope (cellsFrom (r3.heap.objs.size + 1) scope.names (cloFrom X.env.cells scope.names [])) r3.heap.objs.size X.env)) (compPost (model X.prog X.w) X.A X.xe none (EP X pins σ Q) (.ref B) r3.heap.objs.size) { r3 with heap := pushCells (r3.heap.push { cls := .type "dict", data := .dict #[] }) scope.names }
  have nfp : ∀ b ∈ fp, (upd G2 B (.dK [])) b = none := fun b hb => (f3 b hb).1.1
  generalize hce : compEnvC scope (cellsFrom (r3.heap.objs.size + 1) scope.names (cloFrom X.env.cells scope.names [])) r3.heap.objs.size X.env = ce at J4 pg pt pk pv' ⊢
  have cL : ce.locals = r3.heap.objs.size := by subst hce; rfl
  generalize hG3 : upd G2 B (.dK []) = G3 at J3 J4 pg pt pk pv' w0 nfp f3
  generalize hr4 : ({ r3 with heap := pushCells (r3.heap.push { cls := .type "dict", data := .dict #[] }) scope.names } : Shared) = r4 at J4 ⊢
  have st4 : tn 0 r4.heap := T.keep _ _ _ st3 fun b _ o e => by rw [← hr4]; exact pushCells_keeps _ _ _ _ (Heap.get?_push_of_some _ e)
  have mine : ∀ {σ' : L2.St} {G' : Hp} {r' : Shared}, Inv (X.blk r3 G3 scope ce fp) [] σ' G' r' → (∀ b ∈ fp, G' b = none) → ∀ b ∈ fp, FpOk (X.blk r3 G3 scope ce fp) [] G' b := fun {σ' G' r'} J' hn b hb =>
    ⟨hn b hb, (J'.ok.exf b hb).1, J'.ok.exfs b hb, .inl hb, fun x c e => (J'.ok.exf b hb).2 x c e, fun p hp => absurd (show p ∈ ([] : List (Addr × Obj)) ++ [] from hp) (by simp)⟩
  have loop : codeAny (model X.prog X.w) X.A (.compLoop (.DictComp kx vx [⟨tg, iter, ifs, 0⟩] scope pos) 0 (.ref it) (.ref B) ce) (compPost (model X.prog X.w) X.A X.xe none (EP X pins σ Q) (.ref B) r3.heap.objs.size) r4 := by
    refine compLoop_anyD (fun n r' => ∃ i G', Inv (X.blk r3 G3 scope ce fp) [] (wipe σ (own.map (·.2))) G' r' ∧ tn i r'.heap ∧ (∀ b ∈ fp, G' b = none) ∧ W i n G') ?_ m0 ⟨0, G3, J4, st4, nfp, w0⟩
    rintro n r5 ⟨i, G5, J5, st5, n5, w5⟩
    rcases turn i n G5 w5 with ⟨stop, qq⟩ | ⟨go, Nx, hNx, step⟩
    · refine thnF (T.done (X.blk r3 G3 scope ce fp) rfl rfl rfl hc i [] r5 _ G5 (fun _ _ => False) J5 (mine J5 n5) st5 stop) fun r r6 ⟨er, J6⟩ => ?_
      subst er
      have J7 : Inv X pins σ G5 r6 := J3.call' (ch := fp) J6.os J6.base J6.hok J6.bare fun b hb => ⟨(f3 b hb).1.2.2.2.1, (f3 b hb).1.2.1, (f3 b hb).1.2.2.2.2.1, (f3 b hb).1.2.2.2.2.2⟩
      have nC : G5 r3.heap.objs.size = none := by
        have z : G5 ce.locals = none := J6.free
        rwa [cL] at z
      obtain ⟨m, hn, _⟩ := J6.loc
      have hn : r6.heap.Ns ce.locals m := hn
      rw [cL] at hn
      exact fin0 r6 m G5 J7 qq hn (J3.fpOk (Nat.le_refl _) nC)
    · refine thnF (T.item (X.blk r3 G3 scope ce fp) rfl rfl rfl hc i [] r5 _ G5 (fun _ _ => False) J5 (mine J5 n5) st5 go) fun r r6 ⟨u, er, h6⟩ => ?_
      subst er
      refine thnF h6 fun _ r7 ⟨x, G7, J7, v7, y7, st7, n7⟩ => ?_
      refine thnF (pg.run _ r7 _ G7 x u _ (J7.pinned (mine J7 n7) (T.obj _ _ st7)) v7 (step x G7 y7)) fun _ r8 ⟨σ8, G8, J8, hw8, q8⟩ => ?_
      refine thnF (pt.run _ r8 σ8 G8 _ J8 q8) fun b r9 ⟨G9, J9, q9⟩ => ?_
      have fin : ∀ {r' : Shared} {G' : Hp}, Inv (X.blk r3 G3 scope ce fp) ([] ++ pinsAt fp r7.heap) σ8 G' r' → Nx G' → ∃ m, m < n ∧ ∃ i G', Inv (X.blk r3 G3 scope ce fp) [] (wipe σ (own.map (·.2))) G' r' ∧ tn i r'.heap ∧ (∀ b ∈ fp, G' b = none) ∧ W i m G' := fun {r' G'} J' nx => by
        obtain ⟨m', lt, w'⟩ := hNx G' nx
        have held : ∀ b ∈ fp, ∀ o, r7.heap.get? b = some o → r'.heap.get? b = some o ∧ G' b = none := fun b hb o e =>
          let z := J'.pin (b, o) (List.mem_append_right _ (List.mem_append_right _ (mem_pinsAt hb e)))
          ⟨z.1, z.2.1⟩
        have hl : (wipe σ (own.map (·.2))).length = σ8.length := by rw [← hw8, wipe_length]
        refine ⟨m', lt, i + 1, G', (J'.unpinned (pins := [])).weak hl (fun j v e => ?_), T.keep _ _ _ st7 fun b hb o e => (held b hb o e).1, fun b hb => ?_, w'⟩
        · rw [← hw8] at e
          exact (wipe_some e).1
        · obtain ⟨o, e, _⟩ := T.obj _ _ st7 b hb
          exact (held b hb o e).2
      cases b with
      | false =>
        rw [if_neg Bool.false_ne_true] at q9 ⊢
        exact fin J9 q9
      | true =>
        rw [if_pos rfl] at q9 ⊢
        refine thnF (pk.run _ r9 σ8 G9 _ J9 q9) fun z r10 ⟨yk, G10, J10, v10, q10⟩ => ?_
        refine thnF (pv'.run _ r10 σ8 G10 _ J10 q10) fun z2 r11 ⟨yv, G11, J11, v11, ks, us, ws, E, x, dc, dk, hx, okx, hl, nx⟩ => ?_
        exact dv_dset (X := X.blk r3 G3 scope ce fp) hr.units J11 dc dk (by rw [dc_len J11 dc.rd, dk.len]) hl hx v10 v11 okx fun ob r12 J12 gq => fin J12 (nx ob gq)
  exact codeAny_compStart_dict loop (T.self X.A 0 _ _ _ st4 loop)
end
end DL

set_option Elab.async false
set_option linter.all false
set_option maxRecDepth 100000
set_option maxHeartbeats 4000000
namespace DL
open PySem L2
/-- {tk: tv for T in d if tt} -/
def dcdo (T : Tg) (tt : RT) (tk tv : RE) (ρ : Rho) : List D → List D → List D → (List D → List D → Prop) → Prop
  | [], aks, avs, q => q aks avs
  | d :: ds, aks, avs, q => match T.put d ρ with
    | some ρ' => tt ρ' fun b => if b = true then tk ρ' fun x => tv ρ' fun y => kok aks x = true ∧ avs.length = aks.length ∧ aks.length < sizeLine ∧ dcdo T tt tk tv ρ ds (kputK aks x) (kputV aks avs x y) q else dcdo T tt tk tv ρ ds aks avs q
    | none => False
def fdcK (j : Nat) (vs : List Nat) (T : Tg) (tt : RT) (tk tv : RE) : RDD := fun ρ q => match ρ[j]? with
  | some (some (.im (.dct ks _))) => dcdo T tt tk tv (wipeR ρ vs) ks [] [] q
  | _ => False
theorem dcK_core {X : Cx} {F : Fx} (hF : F.K = X.K) {E : Addr → Prop} {σ : St} {H1 : Hp} {ρ : Rho} {vs : List Nat} {T : Tg} {tt : RT} {tk tv : RE} (hT : ∀ i ∈ T.slots, i ∈ vs) {p : Addr} {od : Obj} {u : HO} {us : List V} {ks : List D} {J : It} (env : DEnv F E σ H1 ρ) (h0 : F.H0 p = some (.frz od u)) (nW : ¬ F.W p)
    (Jg : ∀ i H, H p = some (.frz od u) → i < us.length → J.go i H) (Jy : ∀ i H x H', J.yld i H x H' → H' = H ∧ us[i]? = some x) (Js : ∀ i H, H p = some (.frz od u) → us.length ≤ i → J.stop i H)
    (hul : us.length = ks.length) (hh : ∀ z ∈ us.zip ks, z ∈ F.held) {q : List D → List D → Prop} (hq : dcdo T tt tk tv (wipeR ρ vs) ks [] [] q) {Q : VK}
    (k : ∀ aks avs, q aks avs → ∀ D H', XExt F H1 H' → H1 D = none → OwnAt F (plus E D) H' D (.md aks avs) → H' p = some (.frz od u) → Q (.ref D) H') :
    ∀ D, H1 D = none → ∃ W : Nat → Nat → Hp → Prop, (∃ m, W 0 m (upd H1 D (.dK []))) ∧ ∀ i m H, W i m H → (J.stop i H ∧ Q (.ref D) H) ∨ (J.go i H ∧ ∃ Nx : Hp → Prop, (∀ H', Nx H' → ∃ m', m' < m ∧ W (i + 1) m' H') ∧ ∀ x H', J.yld i H x H' →
      T.g F.K x (L2.wipe σ vs) H' fun σ2 H2 => L2.wipe σ2 vs = L2.wipe σ vs ∧ (∃ F' : Fx, F'.K = F.K ∧ liftT F' tt σ2 H2 fun b H3 => if b = true then (∃ F' : Fx, F'.K = F.K ∧ liftE F' tk σ2 H3 fun y H4 => ∃ F' : Fx, F'.K = F.K ∧ liftE F' tv σ2 H4 fun z H5 => DPutO X D y z H5 Nx) else Nx H3)) := by
  intro D hD
  have xD : XExt F H1 (upd H1 D (.dK [])) := XExt.new env.so hD
  have e2 : DEnv F (plus E D) σ (upd H1 D (.dK [])) ρ := env.shut xD hD ⟨_, upd_same⟩
  have nED : ¬ E D := env.nE hD
  have nBD : ¬ F.B D := fun hB => nED (env.sub D hB)
  have h0D : F.H0 D = none := env.h0 hD
  have nWD : ¬ F.W D := fun w => nED (env.we w)
  have noSlot : ∀ (j : Nat) s, (wipeR ρ vs)[j]? = some (some s) → s.own = true → (L2.wipe σ vs)[j]? ≠ some (some (.ref D)) := fun j s hs os q => nED ((env.wipe vs).ownIn j s D hs os q)
  have frz : ∀ {E2 : Addr → Prop} {σ2 : St} {H2 : Hp} {ρ2 : Rho}, DEnv F E2 σ2 H2 ρ2 → H2 p = some (.frz od u) := fun e2 => e2.fr p _ h0 nW
  refine ⟨fun i m H => m = ks.length - i ∧ i ≤ ks.length ∧ FExt F.W H1 H ∧ DEnv F (plus E D) (L2.wipe σ vs) H (wipeR ρ vs) ∧ ∃ aks avs us ws, DcM H D aks us ws ∧ DnA F.K (plus E D) H aks us ∧ DnA F.K (plus E D) H avs ws ∧ dcdo T tt tk tv (wipeR ρ vs) (ks.drop i) aks avs q,
    ⟨ks.length, rfl, Nat.zero_le _, xD.1, e2.wipe vs, [], [], [], [], .inl ⟨[], upd_same, rfl, rfl, List.nodup_nil⟩, rfl, rfl, hq⟩, ?_⟩
  rintro i m H ⟨rfl, hi, fx, env', aks, avs, us1, ws1, dcB, dkB, dvB, hr⟩
  have hz := frz env'
  by_cases hlt : i < ks.length
  · rw [List.drop_eq_getElem_cons hlt] at hr
    unfold dcdo at hr
    split at hr
    · rename_i ρ' hput
      refine .inr ⟨Jg i H hz (by omega), fun H' => FExt F.W H1 H' ∧ DEnv F (plus E D) (L2.wipe σ vs) H' (wipeR ρ vs) ∧ ∃ aks avs us ws, DcM H' D aks us ws ∧ DnA F.K (plus E D) H' aks us ∧ DnA F.K (plus E D) H' avs ws ∧ dcdo T tt tk tv (wipeR ρ vs) (ks.drop (i + 1)) aks avs q,
        fun H' z => ⟨_, Nat.sub_lt_sub_left hlt (Nat.lt_succ_self i), rfl, hlt, z⟩, fun x H2 hx => ?_⟩
      obtain ⟨rfl, hux⟩ := Jy i H x H2 hx
      have dx : Dn F.K (plus E D) H2 ks[i] x := env'.hl (x, ks[i]) (by
        refine hh _ ?_
        have hu2 : i < us.length := by omega
        rw [List.getElem?_eq_getElem hu2] at hux
        have : x = us[i] := (Option.some.inj hux).symm
        rw [this]
        exact List.mem_iff_getElem.mpr ⟨i, by rw [List.length_zip]; omega, by rw [List.getElem_zip]⟩)
      refine Tg.sem (F := F) T env' dx hput fun σ2 e3 sb => ⟨wipe_same sb hT, ?_⟩
      refine ⟨F, rfl, plus E D, ρ', _, e3, hr, fun b hb H3 x3 => ?_⟩
      have e4 := e3.step x3
      cases b with
      | true =>
        rw [if_pos rfl] at hb
        show if true = true then _ else _
        rw [if_pos rfl]
        refine ⟨F, rfl, plus E D, ρ', _, e4, hb, fun y hy v H4 x4 hvy => ?_⟩
        have e5 := e4.step x4
        refine ⟨F, rfl, plus E D, ρ', _, e5, hy, fun z hz w H5 x5 hvz => ?_⟩
        obtain ⟨okk, hll, hlt', hz⟩ := hz
        have x25 : XExt F H2 H5 := x3.trans (x4.trans x5)
        have dc5 : DcM H5 D aks us1 ws1 := dcB.at fun o q => x25.1 D _ q nWD
        have env5 := env'.step x25
        have dk5 := env'.dna x25 dkB
        have dv5 := env'.dna x25 dvB
        have hy5 := e5.dn x5 hvy
        refine ⟨aks, us1, ws1, plus E D, y, dc5, hF ▸ dk5, hF ▸ hy5, okk, hlt', fun ob g => ?_⟩
        have fe : FExt (plus E D) H5 (upd H5 D ob) := fun b u q hb => by rw [upd_ne (fun z : b = D => hb (.inr z))]; exact q
        refine ⟨?_, env5.poke (.inr rfl) nBD h0D noSlot, _, _, _, _, g _ upd_same, DnA.ext fe _ _ (put_dna dk5 hy5), DnA.ext fe _ _ (putv_dna dv5 hvz), hz⟩
        have f5 : FExt F.W H1 H5 := fx.trans x25.1
        exact fun b u qb w => by rw [upd_ne (ne_of_none qb hD)]; exact f5 b u qb w
      | false =>
        rw [if_neg Bool.false_ne_true] at hb
        show if false = true then _ else _
        rw [if_neg Bool.false_ne_true]
        exact ⟨fx.trans x3.1, env'.step x3, aks, avs, us1, ws1, dcB.at fun o q => x3.1 D _ q nWD, env'.dna x3 dkB, env'.dna x3 dvB, hb⟩
    · exact hr.elim
  · have hil : i = ks.length := by omega
    rw [hil, List.drop_length] at hr
    exact .inl ⟨Js i H hz (by omega), k aks avs hr D H ⟨fx, env'.so⟩ hD ⟨us1, ws1, dcB, dkB, dvB⟩ hz⟩
section
variable {X : Cx} {tg iter kx vx : Expr} {ifs : List Expr} {pos : Pos}
theorem fd_dcK {k j : Nat} {scope : Scope} {own : List (Str × Nat)} {T : Tg} {tt : RT} {tk tv : RE} (hr : Room k X.A) (hc : X.calm = true) (hN : X.N.Nodup) (hv : PE X iter (tVar j)) (ok : BlkOk X.N X.env.scope scope own) (hT : ∀ i ∈ T.slots, i ∈ own.map (·.2))
    (hg : ∀ (s : Shared) (H : Hp) (C : Addr) (cl : List (Str × Addr)) (fp : List Addr), GD (X.blk s H scope (compEnvC scope cl C X.env) fp) tg T) (ht : ∀ (s : Shared) (H : Hp) (C : Addr) (cl : List (Str × Addr)) (fp : List Addr), TsD (X.blk s H scope (compEnvC scope cl C X.env) fp) ifs tt)
    (he : ∀ (s : Shared) (H : Hp) (C : Addr) (cl : List (Str × Addr)) (fp : List Addr), ED (X.blk s H scope (compEnvC scope cl C X.env) fp) kx tk) (hev : ∀ (s : Shared) (H : Hp) (C : Addr) (cl : List (Str × Addr)) (fp : List Addr), ED (X.blk s H scope (compEnvC scope cl C X.env) fp) vx tv) (hs : ∀ x, foldedSetIterable iter X.env x = pure x := by intro _; rfl) :
    FDD X (.DictComp kx vx [⟨tg, iter, ifs, 0⟩] scope pos) (fdcK j (own.map (·.2)) T tt tk tv) := fun F hF => by
  have ht' : ∀ (s : Shared) (H : Hp) (C : Addr) (cl : List (Str × Addr)) (fp : List Addr), PTs (X.blk s H scope (compEnvC scope cl C X.env) fp) ifs (fun σ H Q => ∃ F' : Fx, F'.K = F.K ∧ liftT F' tt σ H Q) := fun s H C cl fp => ⟨fun pins s' σ H' Q I ⟨F', hK, q⟩ => (ht s H C cl fp F' (hK.trans hF)).run pins s' σ H' Q I q⟩
  have hk' : ∀ (s : Shared) (H : Hp) (C : Addr) (cl : List (Str × Addr)) (fp : List Addr), PE (X.blk s H scope (compEnvC scope cl C X.env) fp) kx (fun σ H Q => ∃ F' : Fx, F'.K = F.K ∧ liftE F' tk σ H Q) := fun s H C cl fp => ⟨fun pins s' σ H' Q I ⟨F', hK, q⟩ => (he s H C cl fp F' (hK.trans hF)).run pins s' σ H' Q I q⟩
  have he' : ∀ (s : Shared) (H : Hp) (C : Addr) (cl : List (Str × Addr)) (fp : List Addr), PE (X.blk s H scope (compEnvC scope cl C X.env) fp) vx (fun σ H Q => ∃ F' : Fx, F'.K = F.K ∧ liftE F' tv σ H Q) := fun s H C cl fp => ⟨fun pins s' σ H' Q I ⟨F', hK, q⟩ => (hev s H C cl fp F' (hK.trans hF)).run pins s' σ H' Q I q⟩
  have A := pe_dcO (g := T.g X.K) (pos := pos) hr hc hN (pi_keysO (tg := tg) hv) ok (fun s H C cl fp => hg s H C cl fp) ht' hk' he' hs
  have B := pe_dcO (g := T.g X.K) (pos := pos) hr hc hN (pi_keys (tg := tg) hv) ok (fun s H C cl fp => hg s H C cl fp) ht' hk' he' hs
  have A' := pe_lock A
  have B' := pe_lock B
  refine PE.imp (t := fun σ H Q => _ ∨ _ ∨ _ ∨ _) ⟨fun pins s σ H Q I q => q.elim (A'.run pins s σ H Q I) fun q => q.elim (B'.run pins s σ H Q I) fun q => q.elim (A.run pins s σ H Q I) (B.run pins s σ H Q I)⟩ fun σ H Q => ?_
  rintro ⟨E, ρ, q, env, h, k⟩
  unfold fdcK at h
  split at h
  · rename_i ks vs hj
    obtain ⟨v, hvj, p, us, ws, ev, nE, dc, dk, dv⟩ := env.sl j _ hj
    subst ev
    have nW : ¬ F.W p := fun w => nE (env.sub p (env.wb p w))
    have hul : us.length = ks.length := dk.len
    have hel : ∀ z ∈ us.zip ks ++ [(V.ref p, DL.D.dct ks vs)], Dn F.K E H z.2 z.1 := fun z hz => by
      rcases List.mem_append.mp hz with hz | hz
      · exact DnA.zip dk z hz
      · obtain rfl := List.mem_singleton.mp hz
        exact ⟨p, us, ws, rfl, nE, dc, dk, dv⟩
    -- the way back
    have back : ∀ (u : HO) (od : Obj) (H1 H' H3 : Hp), (∀ b, b ≠ p → H1 b = H b) → ((∃ nk us ws, u = DictO p nk us ws) ∨ ∃ kvs, kvs ≠ [] ∧ u = .dK kvs) → Rd H3 p u → H3 p = H p → (∀ b, b ≠ p → H3 b = H' b) → ∀ aks avs, q aks avs → ∀ D, XExt (F.lk p od u (us.zip ks ++ [(V.ref p, DL.D.dct ks vs)])) H1 H' → H1 D = none → H1 p ≠ none → OwnAt F (plus E D) H' D (.md aks avs) → H' p = some (.frz od u) → Q (.ref D) H3 := by
      intro u od H1 H' H3 off1 hu r3 h3 off3 aks avs ha D x hD hp1 ow hz
      have nDp : D ≠ p := fun e => hp1 (e ▸ hD)
      have L : LkH p u H' H3 := ⟨off3, .inr ⟨od, hz⟩, r3, hu⟩
      obtain ⟨us1, ws1, dcB, dkB, dvB⟩ := ow
      exact k aks avs ha D H3 (lk_out env nE off1 x h3 off3) (by rw [← off1 D nDp]; exact hD) ⟨us1, ws1, dcB.at fun o q => by rw [off3 D nDp]; exact q, L.dna _ _ dkB, L.dna _ _ dvB⟩
    rcases dc with ⟨kvs, hk, hus, _⟩ | ⟨hO, _, hne⟩
    · rcases hk with hk | ⟨ne, od, hk⟩
      · by_cases ne : kvs = []
        · -- nothing to walk
          subst ne
          have hk0 : ks = [] := by
            have : us.length = 0 := by rw [hus]; rfl
            exact List.eq_nil_of_length_eq_zero (by omega)
          subst hk0
          refine .inr (.inl ⟨p, _, hk, trivial, fun od => ⟨_, hvj, p, od, rfl, .inl ⟨[], upd_same, fun D hD => ⟨fun i m H1 => i = 0 ∧ H1 = upd (upd H p (.frz od (.dK []))) D (.dK []), ⟨0, rfl, rfl⟩, ?_⟩⟩⟩⟩)
          rintro i m H1 ⟨rfl, rfl⟩
          have nDp : D ≠ p := fun e => by rw [e, upd_same] at hD; cases hD
          have hD' : H D = none := by rw [upd_ne nDp] at hD; exact hD
          have hz : upd (upd H p (.frz od (.dK []))) D (.dK []) p = some (.frz od (.dK [])) := by rw [upd_ne (Ne.symm nDp)]; exact upd_same
          refine .inl ⟨⟨hz, Nat.le_refl _⟩, hz, ?_⟩
          have e : upd (upd (upd H p (.frz od (.dK []))) D (.dK [])) p (.dK []) = upd H D (.dK []) := by
            funext b
            by_cases e1 : b = p
            · subst e1; rw [upd_same, upd_ne (Ne.symm nDp), hk]
            · by_cases e2 : b = D
              · subst e2; rw [upd_ne e1, upd_same, upd_same]
              · rw [upd_ne e1, upd_ne e2, upd_ne e1, upd_ne e2]
          rw [e]
          exact k [] [] h D _ (XExt.new env.so hD') hD' ⟨[], [], .inl ⟨[], upd_same, rfl, rfl, List.nodup_nil⟩, rfl, rfl⟩
        · have L : ∀ od, LkH p (.dK kvs) H (upd H p (.frz od (.dK kvs))) := fun od => ⟨fun b hb => upd_ne hb, .inl hk, .inr ⟨od, upd_same⟩, .inr ⟨kvs, ne, rfl⟩⟩
          refine .inr (.inl ⟨p, _, hk, trivial, fun od => ⟨_, hvj, p, od, rfl, .inl ⟨kvs, upd_same, ?_⟩⟩⟩)
          rw [← hF]
          refine dcK_core (X := X) (F := F.lk p od (.dK kvs) (us.zip ks ++ [(V.ref p, DL.D.dct ks vs)])) (us := us) (ks := ks) (Q := fun v H' => H' p = some (.frz od (.dK kvs)) ∧ Q v (upd H' p (.dK kvs))) hF hT (lk_in env (L od) upd_same nE hel) upd_same nW ?_ ?_ ?_ hul (fun z hz => List.mem_append_left _ (List.mem_append_left _ hz)) h ?_
          · intro i H' hz hi; exact ⟨hz, by rw [hus, List.length_map] at hi; exact hi⟩
          · rintro i H' x H2 ⟨e, kk, v, hkv, rfl⟩; exact ⟨e, by rw [hus, List.getElem?_map, hkv]; rfl⟩
          · intro i H' hz hi; exact ⟨hz, by rw [hus, List.length_map] at hi; exact hi⟩
          · intro aks avs ha D H' x hD ow hz
            exact ⟨hz, back _ od _ _ _ (fun b hb => upd_ne hb) (.inr ⟨kvs, ne, rfl⟩) (.inl upd_same) (by rw [upd_same, hk]) (fun b hb => upd_ne hb) aks avs ha D x hD (by rw [upd_same]; simp) ow hz⟩
      · have L : LkH p (.dK kvs) H H := ⟨fun b hb => rfl, .inr ⟨od, hk⟩, .inr ⟨od, hk⟩, .inr ⟨kvs, ne, rfl⟩⟩
        refine .inr (.inr (.inr ⟨_, hvj, p, od, rfl, .inl ⟨kvs, hk, ?_⟩⟩))
        rw [← hF]
        refine dcK_core (X := X) (F := F.lk p od (.dK kvs) (us.zip ks ++ [(V.ref p, DL.D.dct ks vs)])) (us := us) (ks := ks) hF hT (lk_in env L hk nE hel) upd_same nW ?_ ?_ ?_ hul (fun z hz => List.mem_append_left _ (List.mem_append_left _ hz)) h ?_
        · intro i H' hz hi; exact ⟨hz, by rw [hus, List.length_map] at hi; exact hi⟩
        · rintro i H' x H2 ⟨e, kk, v, hkv, rfl⟩; exact ⟨e, by rw [hus, List.getElem?_map, hkv]; rfl⟩
        · intro i H' hz hi; exact ⟨hz, by rw [hus, List.length_map] at hi; exact hi⟩
        · intro aks avs ha D H' x hD ow hz
          exact back _ od _ _ _ (fun b hb => rfl) (.inr ⟨kvs, ne, rfl⟩) (.inr ⟨od, hz⟩) (by rw [hz, hk]) (fun b hb => rfl) aks avs ha D x hD (by rw [hk]; simp) ow hz
    · have hd : (∃ nk us' ws', DictO p (DL.D.keys ks) us ws = DictO p nk us' ws') ∨ ∃ kvs, kvs ≠ [] ∧ DictO p (DL.D.keys ks) us ws = .dK kvs := .inl ⟨_, _, _, rfl⟩
      rcases hO with hO | ⟨od, hO⟩
      · have L : ∀ od, LkH p (DictO p (DL.D.keys ks) us ws) H (upd H p (.frz od (DictO p (DL.D.keys ks) us ws))) := fun od => ⟨fun b hb => upd_ne hb, .inl hO, .inr ⟨od, upd_same⟩, hd⟩
        refine .inl ⟨p, _, hO, trivial, fun od => ⟨_, hvj, p, od, _, us, ws, rfl, upd_same, ?_⟩⟩
        rw [← hF]
        refine dcK_core (X := X) (F := F.lk p od (DictO p (DL.D.keys ks) us ws) (us.zip ks ++ [(V.ref p, DL.D.dct ks vs)])) (us := us) (ks := ks) (Q := fun v H' => H' p = some (.frz od (DictO p (DL.D.keys ks) us ws)) ∧ Q v (upd H' p (DictO p (DL.D.keys ks) us ws))) hF hT (lk_in env (L od) upd_same nE hel) upd_same nW ?_ ?_ ?_ hul (fun z hz => List.mem_append_left _ (List.mem_append_left _ hz)) h ?_
        · intro i H' hz hi; exact ⟨hz, hi⟩
        · rintro i H' x H2 ⟨e, hx⟩; exact ⟨e, hx⟩
        · intro i H' hz hi; exact ⟨hz, hi⟩
        · intro aks avs ha D H' x hD ow hz
          exact ⟨hz, back _ od _ _ _ (fun b hb => upd_ne hb) hd (.inl upd_same) (by rw [upd_same, hO]) (fun b hb => upd_ne hb) aks avs ha D x hD (by rw [upd_same]; simp) ow hz⟩
      · have L : LkH p (DictO p (DL.D.keys ks) us ws) H H := ⟨fun b hb => rfl, .inr ⟨od, hO⟩, .inr ⟨od, hO⟩, hd⟩
        refine .inr (.inr (.inl ⟨_, hvj, p, od, _, us, ws, rfl, hO, ?_⟩))
        rw [← hF]
        refine dcK_core (X := X) (F := F.lk p od (DictO p (DL.D.keys ks) us ws) (us.zip ks ++ [(V.ref p, DL.D.dct ks vs)])) (us := us) (ks := ks) hF hT (lk_in env L hO nE hel) upd_same nW ?_ ?_ ?_ hul (fun z hz => List.mem_append_left _ (List.mem_append_left _ hz)) h ?_
        · intro i H' hz hi; exact ⟨hz, hi⟩
        · rintro i H' x H2 ⟨e, hx⟩; exact ⟨e, hx⟩
        · intro i H' hz hi; exact ⟨hz, hi⟩
        · intro aks avs ha D H' x hD ow hz
          exact back _ od _ _ _ (fun b hb => rfl) hd (.inr ⟨od, hz⟩) (by rw [hz, hO]) (fun b hb => rfl) aks avs ha D x hD (by rw [hO]; simp) ow hz
  · exact h.elim
end
end DL

set_option Elab.async false
set_option linter.all false
set_option maxRecDepth 100000
set_option maxHeartbeats 4000000
/-! min of a list of alike data, min(a, b) of alike data -/
namespace DL
open PySem L2 PySem.Spec PyProof.Rows PySem.W
def ltD (a b : D) : Bool := dataLt a.py b.py
/-- the first of the least -/
def minF (y : D) (ys : List D) : D := ys.foldl (fun a z => if ltD z a then z else a) y
def bestI (ds : List D) : Nat := argBest (fun i j => dataLt ((ds.map D.py).getD i .none) ((ds.map D.py).getD j .none)) (ds.length - 1)
theorem argBest_congr {f g : Nat → Nat → Bool} {n : Nat} (h : ∀ i j, i ≤ n → j ≤ n → f i j = g i j) : ∀ k, k ≤ n → argBest f k ≤ k ∧ argBest f k = argBest g k
  | 0, _ => ⟨Nat.le_refl _, rfl⟩
  | k + 1, hk => by
    obtain ⟨h1, h2⟩ := argBest_congr h k (by omega)
    have e := h (k + 1) (argBest f k) hk (by omega)
    refine ⟨?_, ?_⟩
    · unfold argBest
      split <;> omega
    · unfold argBest
      rw [← h2, e]
theorem best_min (y : D) (ys : List D) : (y :: ys)[bestI (y :: ys)]? = some (minF y ys) := by
  obtain ⟨h1, h2⟩ := argBest_fold ltD D.non y ys ys.length (Nat.le_refl _)
  have e : bestI (y :: ys) = argBest (fun i j => ltD ((y :: ys).getD i .non) ((y :: ys).getD j .non)) ys.length := by
    unfold bestI
    refine (argBest_congr (n := ys.length) (fun i j hi hj => ?_) _ (by simp)).2
    have g : ∀ i, i ≤ ys.length → ((y :: ys).map D.py).getD i .none = ((y :: ys).getD i .non).py := fun i hi => by
      rw [List.getD_eq_getElem?_getD, List.getD_eq_getElem?_getD, List.getElem?_map, List.getElem?_eq_getElem (by simp; omega)]
      rfl
    rw [g i hi, g j hj]
    rfl
  rw [List.take_length] at h2
  rw [e]
  have hl : argBest (fun i j => ltD ((y :: ys).getD i .non) ((y :: ys).getD j .non)) ys.length < (y :: ys).length := Nat.lt_succ_of_le h1
  rw [List.getD_eq_getElem?_getD, List.getElem?_eq_getElem hl] at h2
  rw [List.getElem?_eq_getElem hl]
  exact congrArg some h2
section
variable {prog : Program} {w : World} {A : Around} {E : Value → Shared → Prop} {s : Shared}
theorem min_list_at {l : Addr} {vs : Array Value} {xs : List PyData} {as : List Addr} {Q : Value → Shared → Prop} (hh : A.handled = none) (hl : s.heap.IsList l vs) (hr : ReadsAll s.heap vs.toList xs as) (ha : AlikeAll xs) (hu : A.units + 1 + PyData.depthAll xs < cLine) (hn : 0 < xs.length)
    (h : ∀ v h' tk, vs[argBest (fun i j => dataLt (xs.getD i .none) (xs.getD j .none)) (xs.length - 1)]? = some v → (∀ b o, s.heap.get? b = some o → h'.get? b = some o) → Q v { s with heap := h', toks := tk }) : wpAny (model prog w) A (call (.builtin "min") [.ref l]) Q E s := by
  have en : vs.size = xs.length := readsAll_len hr
  refine call_min_walkH (iter_listW (A := A.in1) hh hl fun s2 e W st hfp hw hk => ⟨_, _, _, _, _, _, _, s.heap, _, rfl, W, st, hfp, by omega, hw, hk, cmpIn_lt (A := A.in1) hr ha (by show A.units + 1 + _ < _; exact hu), fun v s' hP m => ?_⟩)
  obtain ⟨h', tk, rfl, k⟩ := moved_old e rfl m
  rw [en] at hP
  exact h v h' tk hP k
theorem min_two_at {a b : Value} {x y : PyData} {as : List Addr} {Q : Value → Shared → Prop} (hh : A.handled = none) (hr : ReadsAll s.heap [a, b] [x, y] as) (ha : AlikeAll [x, y]) (hu : A.units + 1 + PyData.depthAll [x, y] < cLine)
    (h : ∀ v h' tk, #[a, b][argBest (fun i j => dataLt ([x, y].getD i .none) ([x, y].getD j .none)) 1]? = some v → (∀ b o, s.heap.get? b = some o → h'.get? b = some o) → Q v { s with heap := h', toks := tk }) : wpAny (model prog w) A (call (.builtin "min") [a, b]) Q E s := by
  have nm : (toString "min" ++ toString ".loop" : String) = "min.loop" := by decide
  refine call_function_tree F.kind_min F.plain_min F.entry_min (F.args_min2 _ _) ?_
  show wpAny _ A.in1 (Builtin.Builtins.bindParams "min" ["key", "default"] 0 ⟨[], []⟩ >>= _) _ _ s
  refine wpAny_bind (wpAny_of_eq (show Builtin.Builtins.bindParams "min" ["key", "default"] 0 ⟨[], []⟩ = pure [none, none] from rfl) ?_)
  show wpAny _ A.in1 (newTuple [a, b] >>= _) _ _ s
  refine wpAny_bind (wpAny_newObj_type ?_)
  generalize hs1 : ({ s with heap := s.heap.push { cls := .type "tuple", data := .seq #[a, b] } } : Shared) = s1
  have eh : s1.heap = s.heap.push { cls := .type "tuple", data := .seq #[a, b] } := by rw [← hs1]
  have old : ∀ c o, s.heap.get? c = some o → s1.heap.get? c = some o := fun c o q => by rw [eh]; exact Heap.get?_push_of_some _ q
  have isT : s1.heap.IsTuple s.heap.objs.size #[a, b] := by rw [eh]; exact ⟨_, Heap.get?_push_size _ rfl, rfl, 0, rfl⟩
  have hr1 : ReadsAll s1.heap (#[a, b] : Array Value).toList [x, y] as := ReadsAll.keeps old hr
  have goal : wpAny (model prog w) A.in1 (pyIter (.ref s.heap.objs.size)) (fun it s₂ => ∃ I fp wr G n P St H bt, it = .ref I ∧ WalksS prog w A.in1 I fp wr G n P St ∧ St 0 s₂ ∧ (∀ b ∈ fp, b < s₂.heap.objs.size) ∧ 0 < n ∧
      (∀ b o, H.get? b = some o → b ∉ wr) ∧ (∀ b o, H.get? b = some o → s₂.heap.get? b = some o) ∧ CmpIn prog w A.in1 .Lt H P bt ∧ ∀ v s', P (argBest bt (n - 1)) v → Moved wr G s₂ s' → Q v s') E s1 := by
    refine iter_tupleW (A := A.in1) hh isT fun s2 e W st hfp hw hk => ⟨_, _, _, _, _, _, _, s1.heap, _, rfl, W, st, hfp, (by show 0 < 2; decide), hw, hk, cmpIn_lt (A := A.in1) hr1 ha (by show A.units + 1 + _ < _; exact hu), fun v s' hP m => ?_⟩
    obtain ⟨h', tk, rfl, k⟩ := moved_old e rfl m
    have es : ({ s1 with heap := h', toks := tk } : Shared) = { s with heap := h', toks := tk } := by rw [← hs1]
    rw [es]
    exact h v h' tk hP fun c o q => k c o (old c o q)
  refine wpAny_bind (wpAny_mono goal (fun it s₂ h₂ => ?_) fun _ _ e => e)
  obtain ⟨I, fp, wr, G, n, P, St, H, bt, rfl, W, hst, hfp, hn, hw, hkeep, hcmp, hQ⟩ := h₂
  refine wpAny_bind (wpAny_newObj_type ?_)
  have hSf : s₂.heap.objs.size ∉ fp := fun hm => Nat.lt_irrefl _ (hfp _ hm)
  rw [nm]
  refine wpAny_pure ⟨plainId_quiet F.plain_min_loop _, codeAny_min_loop_firstH W H hw bt hcmp s₂.heap.objs.size hSf (fresh_in hkeep) _ hn (fun b o e => Heap.get?_push_of_some _ (hkeep b o e))
    (W.frame 0 s₂ _ s₂.toks hst (Nat.le_refl _) fun b _ o e => Heap.get?_push_of_some _ e) (Heap.get?_push_size _ rfl) fun v s' hP hm => hQ v s' hP (Moved.drop_new (tk := s₂.toks) hm (Nat.le_refl _))⟩
end
theorem reads_of_each {h : Heap} : ∀ {ds : List D} {us : List Value}, EachIs (fun u d => ∃ as, Reads h u (D.py d) as) us ds → ∃ as, ReadsAll h us (ds.map D.py) as
  | _, _, .nil => ⟨[], .nil⟩
  | _, _, .cons ⟨a, r⟩ t => by
    obtain ⟨as, q⟩ := reads_of_each t
    exact ⟨_, .cons r q⟩
theorem depth_fit : ∀ {ds : List D}, (∀ d ∈ ds, d.fitN 7 = true) → PyData.depthAll (ds.map D.py) ≤ 8
  | [], _ => Nat.zero_le _
  | d :: ds, h => by
    have h1 := (fitN_lay 7 d (h d (List.mem_cons_self ..))).2
    have h2 := depth_fit fun x hx => h x (List.mem_cons_of_mem _ hx)
    rw [List.map_cons, PyData.depthAll]
    omega
def rMinQ : RCD := fun ds q => match ds with
  | [.lst (y :: ys)] => (D.lst (y :: ys)).fit = true ∧ AlikeAll ((y :: ys).map D.py) ∧ q (minF y ys)
  | [.tup a, .tup b] => (D.lst [.tup a, .tup b]).fit = true ∧ AlikeAll [(D.tup a).py, (D.tup b).py] ∧ q (minF (.tup a) [.tup b])
  | _ => False
section
variable {X : Cx}
theorem call_minL {k : Nat} (hr : Room k X.A) (hc : X.calm = true) : CallR X (.builtin "min") (fun vs H Q => ∃ a xs y ys E, vs = [.ref a] ∧ SqL X.K H a xs ∧ DnA X.K E H (y :: ys) xs ∧ (D.lst (y :: ys)).fit = true ∧ AlikeAll ((y :: ys).map D.py) ∧ ∀ v, Dn X.K E H (minF y ys) v → Q v H) := by
  intro pins s σ H vs us Q I r h
  obtain ⟨a, xs, y, ys, E, rfl, sq, dn, hf, ha, q⟩ := h
  obtain ⟨its, rv, hl, hz⟩ := I.list sq
  obtain ⟨u, rfl, ru⟩ := vals1 r
  obtain rfl : u = Value.ref a := ru
  have hf' : ∀ d ∈ y :: ys, d.fitN 7 = true := fitsN_mem hf
  obtain ⟨as, hrd⟩ := reads_of_each (each_reads I hf' (each_of dn rv))
  have hd := depth_fit hf'
  refine min_list_at (I.ok.hd hc) hl.isList (xs := (y :: ys).map D.py) (by simpa using hrd) ha (by have := hr.un; omega) (by simp) fun v h' tk hv kp => ?_
  rw [List.length_map] at hv
  have hb := best_min y ys
  obtain ⟨x, hx, dx⟩ := dn.get hb
  obtain ⟨u', hu', ru'⟩ := rv.get hx
  have : v = u' := by
    have e : its.toArray[bestI (y :: ys)]? = some v := hv
    rw [List.getElem?_toArray] at e
    rw [hu'] at e
    exact (Option.some.inj e).symm
  subst this
  exact ⟨x, H, I.kept kp, ru', q x dx⟩
theorem call_min2Q {k : Nat} (hr : Room k X.A) (hc : X.calm = true) : CallR X (.builtin "min") (fun vs H Q => ∃ v1 v2 a b E, vs = [v1, v2] ∧ Dn X.K E H a v1 ∧ Dn X.K E H b v2 ∧ (D.lst [a, b]).fit = true ∧ AlikeAll [a.py, b.py] ∧ ∀ v, Dn X.K E H (minF a [b]) v → Q v H) := by
  intro pins s σ H vs us Q I r h
  obtain ⟨v1, v2, a, b, E, rfl, d1, d2, hf, ha, q⟩ := h
  obtain ⟨u1, u2, rfl, r1, r2⟩ := vals2 r
  have hf' : ∀ d ∈ [a, b], d.fitN 7 = true := fitsN_mem hf
  have dn : DnA X.K E H [a, b] [v1, v2] := ⟨v1, [v2], rfl, d1, v2, [], rfl, d2, rfl⟩
  have rv : Vals [v1, v2] [u1, u2] := .cons r1 (.cons r2 .nil)
  obtain ⟨as, hrd⟩ := reads_of_each (each_reads I hf' (each_of dn rv))
  have hd := depth_fit hf'
  refine min_two_at (I.ok.hd hc) (x := a.py) (y := b.py) hrd ha (by have := hr.un; simp only [List.map_cons, List.map_nil] at hd; omega) fun v h' tk hv kp => ?_
  obtain ⟨x, hx, dx⟩ := dn.get (best_min a [b])
  obtain ⟨u', hu', ru'⟩ := rv.get hx
  have : v = u' := by
    have e : (#[u1, u2] : Array Value)[bestI [a, b]]? = some v := hv
    have e' : (#[u1, u2] : Array Value)[bestI [a, b]]? = [u1, u2][bestI [a, b]]? := by rw [← List.getElem?_toArray]
    rw [e', hu'] at e
    exact (Option.some.inj e).symm
  subst this
  exact ⟨x, H, I.kept kp, ru', q x dx⟩
theorem c_minQ {k : Nat} (hr : Room k X.A) (hc : X.calm = true) : CallD X (.builtin "min") rMinQ := by
  refine ⟨_, CallR.or (call_minL hr hc) (call_min2Q hr hc), fun F E H ds vs q Q hF at_ hv h kq => ?_⟩
  unfold rMinQ at h
  split at h
  · rename_i y ys
    obtain ⟨v, rfl, a, xs, rfl, t, g⟩ := hv.one
    exact .inl ⟨a, xs, y, ys, E, rfl, t.sq, hF ▸ g, h.1, h.2.1, fun v hv' => kq _ h.2.2 v H (XExt.refl at_.so) (hF.symm ▸ hv')⟩
  · rename_i a b
    obtain ⟨v, r, rfl, h1, v2, r2, rfl, h3, h4⟩ := hv
    rw [show r2 = [] from h4]
    exact .inr ⟨v, v2, .tup a, .tup b, E, rfl, hF ▸ (show Dn F.K E H (.tup a) v from h1), hF ▸ (show Dn F.K E H (.tup b) v2 from h3), h.1, h.2.1, fun v hv' => kq _ h.2.2 v H (XExt.refl at_.so) (hF.symm ▸ hv')⟩
  · exact h.elim
end
end DL

set_option Elab.async false
set_option linter.all false
set_option maxRecDepth 100000
set_option maxHeartbeats 4000000
/-! d != {} -/
namespace DL
open PySem L2 PySem.Spec PyProof.Rows PySem.W
section
variable {prog : Program} {w : World} {A : Around} {Er : Value → Shared → Prop} {s : Shared}
theorem same_empty {nm : String} {a b : Addr} {oa ob : Obj} {es : Array DictEntry} {ep ep' : Nat} {Q : Bool → Shared → Prop} (ha : (a == sysModules) = false) (hb : (b == sysModules) = false) (hoa : s.heap.get? a = some oa) (hda : oa.data = .dict es ep)
    (hob : s.heap.get? b = some ob) (hdb : ob.data = .dict #[] ep') (h : Q (es.size == 0) s) : wpAny (model prog w) A (Builtin.Dict.samePairs nm a b) Q Er s := by
  unfold Builtin.Dict.samePairs Builtin.Dict.showsAll
  rw [if_neg (show ¬ (a == sysModules) = true by rw [ha]; exact Bool.false_ne_true), if_neg (show ¬ (b == sysModules) = true by rw [hb]; exact Bool.false_ne_true)]
  refine wpAny_bind (wpAny_pure (wpAny_bind (wpAny_pure (wpAny_bind (wpAny_dictEntries hoa hda ?_)))))
  dsimp only
  refine wpAny_bind (wpAny_dictEntries hob hdb ?_)
  by_cases hz : es.size = 0
  · have e0 : (es.size == 0) = true := by simpa using hz
    rw [e0] at h
    rw [if_neg (by simp [hz])]
    refine wpAny_bind (wpAny_dictEpoch hoa hda (wpAny_bind ?_))
    rw [Std.Legacy.Range.forIn_eq_forIn_range']
    simp only [Std.Legacy.Range.size, Nat.sub_zero, Nat.add_sub_cancel, Nat.div_one, hz, List.range'_zero]
    exact wpAny_pure (wpAny_pure h)
  · have e0 : (es.size == 0) = false := by simpa using hz
    rw [e0] at h
    rw [if_pos (by simpa using hz)]
    exact wpAny_bind (wpAny_rule (wpAny_pure h))
theorem ne_empty {a b : Addr} {oa ob : Obj} {es : Array DictEntry} {ep ep' : Nat} {Q : Value → Shared → Prop} (ha : (a == sysModules) = false) (hb : (b == sysModules) = false) (hoa : s.heap.get? a = some oa) (hca : oa.ExactDict) (hda : oa.data = .dict es ep)
    (hob : s.heap.get? b = some ob) (hcb : ob.ExactDict) (hdb : ob.data = .dict #[] ep') (hu : A.units < cLine) (h : Q (.bool (!(es.size == 0))) s) : wpAny (model prog w) A (compareOp .NotEq (.ref a) (.ref b)) Q Er s := by
  have ta : s.TypeIs (.ref a) "dict" := ⟨oa, hoa, hca.1⟩
  have tb : s.TypeIs (.ref b) "dict" := ⟨ob, hob, hcb.1⟩
  refine wpAny_richCompare_same_room (op := .NotEq) ta tb PySem.F.slot_dict_ne (wpAny_call_entry PySem.F.slot_dict_ne ta PySem.F.entry_dict_ne ?_ (PySem.F.args_dict_ne_2 _ _)) hu
  show wpAny _ _ (Builtin.Dict.dictSlotArgs "__ne__" ⟨[.ref a, .ref b], []⟩ >>= _) _ _ s
  refine wpAny_bind ?_
  unfold Builtin.Dict.dictSlotArgs
  refine wpAny_bind (wpAny_notOrdered_dict ta ?_)
  show wpAny _ _ (pure (Value.ref a, Value.ref b)) _ _ s
  refine wpAny_pure (wpAny_bind (wpAny_isInstance (T := "dict") tb PySem.F.sub_dict_dict ?_))
  simp only [Bool.not_true, Bool.false_eq_true, if_false]
  refine wpAny_bind (wpAny_pure (wpAny_bind (wpAny_pure (wpAny_bind (same_empty ha hb hoa hda hob hdb ?_)))))
  refine wpAny_pure ⟨_, rfl, ?_, ?_⟩
  · intro x; cases x
  · simpa using h
end
section
variable {X : Cx}
/-- what stands in the heap for a dict -/
theorem dct_raw {pins : List (Addr × Obj)} {σ : L2.St} {H : Hp} {s : Shared} {a : Addr} {ks : List D} {us ws : List V} (I : Inv X pins σ H s) (dc : DcAt H a ks us ws) : (a == sysModules) = false ∧ ∃ o es ep, s.heap.get? a = some o ∧ o.ExactDict ∧ o.data = .dict es ep ∧ es.size = us.length := by
  rcases dc with ⟨kvs, h1, h2, _⟩ | ⟨h1, _⟩
  · obtain ⟨z, hd, vs', rel, o, es, ep, g1, g2, g3, _, g5, _⟩ := dk_rd I.hok h1.rd
    refine ⟨hd, o, es, ep, g1, g2, g3, ?_⟩
    have e1 := g5.length
    have e2 : kvs.length = vs'.length := Paired.length rel
    rw [Array.length_toList] at e1
    rw [h2, List.length_map]
    omega
  · obtain ⟨⟨hd, hl, xs, e1, nd, e2, rv, o, es, ep, g1, g2, g3, g4⟩, _⟩ := h1.ok I.hok
    refine ⟨hd, o, es, ep, g1, g2, g3, ?_⟩
    rw [← Array.length_toList, g4, List.length_map, ← e2, List.length_map]
def rNeE : R2D := fun x y q => match x, y with
  | .dct ks _, .dct [] [] => q (.bl (!ks.isEmpty))
  | _, _ => False
theorem o_neE {k : Nat} (hr : Room k X.A) : OpD X (compareOp .NotEq) rNeE := by
  refine ⟨fun y v H Q => ∃ a ks us ws b us' ws' E, y = .ref a ∧ v = .ref b ∧ DcAt H a ks us ws ∧ DcAt H b [] us' ws' ∧ DnA X.K E H ks us ∧ us' = [] ∧ Q (.bl (!ks.isEmpty)) H, ?_, ?_⟩
  · rintro pins s σ H y v u u2 Q I ry rv ⟨a, ks, us, ws, b, us', ws', E, rfl, rfl, d1, d2, dk, rfl, q⟩
    obtain rfl : u = Value.ref a := ry
    obtain rfl : u2 = Value.ref b := rv
    obtain ⟨ha, oa, es, ep, g1, g2, g3, g4⟩ := dct_raw I d1
    obtain ⟨hb, ob, es', ep', f1, f2, f3, f4⟩ := dct_raw I d2
    have e' : es' = #[] := Array.eq_empty_of_size_eq_zero (by simpa using f4)
    subst e'
    have hl : us.length = ks.length := dk.len
    refine ne_empty ha hb g1 g2 g3 f1 f2 f3 (by have := hr.un; omega) ⟨.bl (!ks.isEmpty), H, I, ?_, q⟩
    have : (es.size == 0) = ks.isEmpty := by
      rw [g4, hl]
      cases ks <;> rfl
    rw [this]
    rfl
  · intro F E H x y u v q Q hF at_ hx hy h k
    unfold rNeE at h
    split at h
    · rename_i ks vs
      obtain ⟨a, us, ws, rfl, nW, dc, dk, dv⟩ := hx
      obtain ⟨b, us', ws', rfl, nW', dc', dk', dv'⟩ := hy
      exact ⟨a, ks, us, ws, b, us', ws', E, rfl, rfl, dc, dc', hF ▸ dk, dk', k _ h _ H (XExt.refl at_.so) rfl⟩
    · exact h.elim
end
end DL

set_option Elab.async false
set_option linter.all false
set_option maxRecDepth 100000
set_option maxHeartbeats 4000000
namespace DL
open PySem L2
section
variable {X : Cx} {a b : Expr} {pos : Pos} {tr : RA}
/-- a, b = .. where some name is a cell -/
theorem s_parC2 {i j : Nat} {x y : Str} {px py pt : Pos} {kt k2 pt2} (hc : X.calm = true) (hN : X.N.Nodup) (hi : X.N[i]? = some x) (hj : X.N[j]? = some y)
    (hx : Loc X.env.scope x) (hy : Loc X.env.scope y) (ha : KD X [a, b] tr)
    (fx : X.fn x = true ∨ X.env.scope.names.lookup x = some .local := by first | exact .inl rfl | exact .inr rfl) (fy : X.fn y = true ∨ X.env.scope.names.lookup y = some .local := by first | exact .inl rfl | exact .inr rfl)
    (hw : swappedStores [.Tuple [.Name x px, .Name y py] kt pt] (.Tuple [a, b] k2 pt2) X.env = pure none := by rfl)
    (hs : swapsWithSole [.Tuple [.Name x px, .Name y py] kt pt] (.Tuple [a, b] k2 pt2) pos.line X.env = pure false := by rfl)
    (h1 : (assignEach [.Tuple [.Name x px, .Name y py] kt pt] X.env).map (·.2) = [assign (.Tuple [.Name x px, .Name y py] kt pt) X.env] := by rfl)
    (q1 : (assignEach [.Name x px, .Name y py] X.env).map (·.2) = assign (.Name x px) X.env :: (assignEach [.Name y py] X.env).map (·.2) := by rfl)
    (q2 : (assignEach [.Name y py] X.env).map (·.2) = assign (.Name y py) X.env :: (assignEach [] X.env).map (·.2) := by rfl)
    (q4 : (assignEach [.Name x px, .Name y py] X.env).length = 2 := by rfl) (q5 : (assignEach [.Name x px, .Name y py] X.env).findIdx? (·.1) = none := by rfl) :
    SD X (.Assign [.Tuple [.Name x px, .Name y py] kt pt] (.Tuple [a, b] k2 pt2) pos) (spar i j tr) := fun F hF =>
  (ps_asg (pe_tup (ha F hF)) (pg_tup hc (pgs_cons (pg_name hN hi hx fx) (pgs_cons (pg_name hN hj hy fy) pgs_nil q2) q1) q4 q5) hs hw h1).imp fun D_ σ H => by
  rintro ⟨E, ρ, Z, env, h, sv⟩
  refine ⟨E, ρ, _, env, h, fun ss hss vs H1 E1 g hvs => ?_⟩
  split at hss
  · rename_i s1 s2
    match vs, hvs with
    | [v1, v2], ⟨F1, n1, F2, n2, _⟩ =>
      obtain ⟨e1, o1⟩ := (env.grow g).put1 (i := i) env.ownIn n1
      obtain ⟨e2, o2⟩ := e1.put1 (i := j) o1 n2
      refine ⟨by show 2 ≤ sizeLine; decide, fun p hp => ?_⟩
      have e4 := e2.step (XExt.new (o := .tup [v1, v2]) e2.so hp)
      exact ⟨p, [v1, v2], rfl, .inl (.inl upd_same), rfl, v1, _, rfl, v2, _, rfl, rfl, sv.nx _ hss _ _ _ e4⟩
    | [], hv => exact (show False from hv).elim
    | [_], ⟨_, _, hv⟩ => exact (show False from hv).elim
    | _ :: _ :: _ :: _, ⟨_, _, _, _, hv⟩ => exact (show False from hv).elim
  · exact hss.elim

end
/-! ### < and >= of tuples of data -/
section
variable {X : Cx}
def rLtQ : R2D := fun x y q => match x, y with
  | .tup a, .tup b => (D.tup a).fit = true ∧ (D.tup b).fit = true ∧ PySem.W.alike (D.tup a).py (D.tup b).py = true ∧ q (.bl (ltD (.tup a) (.tup b)))
  | _, _ => False
def rGeQ : R2D := fun x y q => match x, y with
  | .tup a, .tup b => (D.tup a).fit = true ∧ (D.tup b).fit = true ∧ PySem.W.alike (D.tup a).py (D.tup b).py = true ∧ q (.bl (!ltD (.tup a) (.tup b)))
  | _, _ => False
theorem tup_not_none (a : List D) : (D.tup a).py ≠ .none := fun h => by cases h
theorem o_ltQ {k : Nat} (hr : Room k X.A) : OpD X (compareOp .Lt) rLtQ := by
  refine ⟨fun y v H Q => ∃ a b E, Dn X.K E H (.tup a) y ∧ Dn X.K E H (.tup b) v ∧ (D.tup a).fit = true ∧ (D.tup b).fit = true ∧ PySem.W.alike (D.tup a).py (D.tup b).py = true ∧ Q (.bl (ltD (.tup a) (.tup b))) H, ?_, ?_⟩
  · rintro pins s σ H y v u u2 Q I ry rv ⟨a, b, E, d1, d2, f1, f2, al, q⟩
    obtain ⟨as, r1⟩ := Dp.reads I _ _ _ (dp_of 8 _ _ f1 d1) ry
    obtain ⟨bs, r2⟩ := Dp.reads I _ _ _ (dp_of 8 _ _ f2 d2) rv
    have h1 := (fitN_lay 8 _ f1).2
    exact PySem.W.lt_data r1 r2 al (tup_not_none a) (by have := hr.un; have := Nat.min_le_left (D.tup a).py.depth (D.tup b).py.depth; omega) ⟨.bl (ltD (.tup a) (.tup b)), H, I, rfl, q⟩
  · intro F E H x y u v q Q hF at_ hx hy h k
    unfold rLtQ at h
    split at h
    · rename_i xs ys
      exact ⟨xs, ys, E, hF ▸ (show Dn F.K E H (.tup xs) u from hx), hF ▸ (show Dn F.K E H (.tup ys) v from hy), h.1, h.2.1, h.2.2.1, k _ h.2.2.2 _ H (XExt.refl at_.so) rfl⟩
    · exact h.elim
theorem o_geQ {k : Nat} (hr : Room k X.A) : OpD X (compareOp .GtE) rGeQ := by
  refine ⟨fun y v H Q => ∃ a b E, Dn X.K E H (.tup a) y ∧ Dn X.K E H (.tup b) v ∧ (D.tup a).fit = true ∧ (D.tup b).fit = true ∧ PySem.W.alike (D.tup a).py (D.tup b).py = true ∧ Q (.bl (!ltD (.tup a) (.tup b))) H, ?_, ?_⟩
  · rintro pins s σ H y v u u2 Q I ry rv ⟨a, b, E, d1, d2, f1, f2, al, q⟩
    obtain ⟨as, r1⟩ := Dp.reads I _ _ _ (dp_of 8 _ _ f1 d1) ry
    obtain ⟨bs, r2⟩ := Dp.reads I _ _ _ (dp_of 8 _ _ f2 d2) rv
    have h1 := (fitN_lay 8 _ f1).2
    exact PySem.W.ge_data r1 r2 al (tup_not_none a) (by have := hr.un; have := Nat.min_le_left (D.tup a).py.depth (D.tup b).py.depth; omega) ⟨.bl (!ltD (.tup a) (.tup b)), H, I, rfl, q⟩
  · intro F E H x y u v q Q hF at_ hx hy h k
    unfold rGeQ at h
    split at h
    · rename_i xs ys
      exact ⟨xs, ys, E, hF ▸ (show Dn F.K E H (.tup xs) u from hx), hF ▸ (show Dn F.K E H (.tup ys) v from hy), h.1, h.2.1, h.2.2.1, k _ h.2.2.2 _ H (XExt.refl at_.so) rfl⟩
    · exact h.elim
end
/-! ### worked out -/
section
variable {ρ : Rho} {q : D → Prop} {ql : List D → Prop} {qd : List D → List D → Prop}
@[simp] theorem x_flcK {j vs T tt te} : flcK j vs T tt te ρ ql = (match ρ[j]? with
  | some (some (.im (.dct ks _))) => lcdo T tt te (wipeR ρ vs) ks [] ql
  | _ => False) := rfl
@[simp] theorem x_fdcK {j vs T tt tk tv} : fdcK j vs T tt tk tv ρ qd = (match ρ[j]? with
  | some (some (.im (.dct ks _))) => dcdo T tt tk tv (wipeR ρ vs) ks [] [] qd
  | _ => False) := rfl
@[simp] theorem x_rMinQL {y ys} : rMinQ [.lst (y :: ys)] q = ((D.lst (y :: ys)).fit = true ∧ PySem.W.AlikeAll ((y :: ys).map D.py) ∧ q (minF y ys)) := rfl
@[simp] theorem x_rMinQ2 {a b} : rMinQ [.tup a, .tup b] q = ((D.lst [.tup a, .tup b]).fit = true ∧ PySem.W.AlikeAll [(D.tup a).py, (D.tup b).py] ∧ q (minF (.tup a) [.tup b])) := rfl
@[simp] theorem x_rNeE {ks vs} : rNeE (.dct ks vs) (.dct [] []) q = q (.bl (!ks.isEmpty)) := rfl
@[simp] theorem x_rLtQ {a b} : rLtQ (.tup a) (.tup b) q = ((D.tup a).fit = true ∧ (D.tup b).fit = true ∧ PySem.W.alike (D.tup a).py (D.tup b).py = true ∧ q (.bl (ltD (.tup a) (.tup b)))) := rfl
@[simp] theorem x_rGeQ {a b} : rGeQ (.tup a) (.tup b) q = ((D.tup a).fit = true ∧ (D.tup b).fit = true ∧ PySem.W.alike (D.tup a).py (D.tup b).py = true ∧ q (.bl (!ltD (.tup a) (.tup b)))) := rfl
theorem dcdo_nil {T : Tg} {tt : RT} {tk tv : RE} {aks avs : List D} : dcdo T tt tk tv ρ [] aks avs qd = qd aks avs := rfl
theorem dcdo_cons {T : Tg} {tt : RT} {tk tv : RE} {ρ' : Rho} {aks avs ds : List D} {d : D} (e : T.put d ρ = some ρ') : dcdo T tt tk tv ρ (d :: ds) aks avs qd = tt ρ' fun b => if b = true then tk ρ' fun x => tv ρ' fun y => kok aks x = true ∧ avs.length = aks.length ∧ aks.length < sizeLine ∧ dcdo T tt tk tv ρ ds (kputK aks x) (kputV aks avs x y) qd else dcdo T tt tk tv ρ ds aks avs qd := by
  conv => lhs; unfold dcdo
  rw [e]
end
end DL

set_option Elab.async false
set_option linter.all false
set_option maxRecDepth 100000
set_option maxHeartbeats 4000000
/-! y = x.pop() of an own list -/
namespace DL
open PySem L2 PySem.Spec PyProof.Rows
variable {X : Cx}
def spop (i j : Nat) : RS := fun Z ρ => match ρ[j]? with
  | some (some (.ml ds)) => match ds.getLast? with
    | some d => Z.nx ((ρ.set j (some (.ml ds.dropLast))).set i (some (.im d)))
    | none => False
  | _ => False
theorem last_dna {K : PySem.W.Frag} {E : Addr → Prop} {H : Hp} : ∀ {ds : List D} {xs : List V} {d : D}, DnA K E H ds xs → ds.getLast? = some d → ∃ y, xs[xs.length - 1]? = some y ∧ Dn K E H d y ∧ DnA K E H ds.dropLast xs.dropLast
  | [], _, _, _, h => by cases h
  | [e], xs, d, ha, h => by
    obtain ⟨v, vs, rfl, hv, hvs⟩ := ha
    cases vs with
    | nil =>
      cases h
      exact ⟨v, rfl, hv, rfl⟩
    | cons w ws => cases hvs
  | e :: e2 :: ds, xs, d, ha, h => by
    obtain ⟨v, vs, rfl, hv, hvs⟩ := ha
    rw [List.getLast?_cons_cons] at h
    obtain ⟨y, h1, h2, h3⟩ := last_dna hvs h
    cases vs with
    | nil => cases h1
    | cons w ws => exact ⟨y, h1, h2, ⟨v, _, rfl, hv, h3⟩⟩
theorem s_pop {i j : Nat} {x : Str} {o : Expr} {apos cpos pos pos' : Pos} (hN : X.N.Nodup) (hi : X.N[i]? = some x) (hx : Loc X.env.scope x) (ho : PE X o (tVar j))
    (hbase : attributeBase o "pop" X.env (eval o X.env) = eval o X.env := by rfl) (hline : (apos.endLine == cpos.line) = true := by rfl)
    (hs : swapsWith (.Call (.Attribute o "pop" apos) [] [] cpos) (some (.Name x pos')) pos.line X.env = pure false := by rfl) (hf : X.fn x = true ∨ X.env.scope.names.lookup x = some .local := by first | exact .inl rfl | exact .inr rfl | assumption) :
    SD X (.Assign [.Name x pos'] (.Call (.Attribute o "pop" apos) [] [] cpos) pos) (spop i j) := fun F hF =>
  (ps_set hN hi hx (pe_bm0 PySem.F.plainAttrs_list PySem.F.slot_list_pop PySem.F.type_list_pop mt_pop ho hbase hline) hs hf).imp fun D_ σ H => by
  rintro ⟨E, ρ, Z, env, h, sv⟩
  unfold spop at h
  split at h
  · rename_i ds hj
    split at h
    · rename_i d hd
      obtain ⟨v, hv, p, xs, ev, hE, hB, h0, hp, ha⟩ := env.sl j _ hj
      subst ev
      obtain ⟨y, hy, dy, hdr⟩ := last_dna ha hd
      refine ⟨_, hv, .inl ⟨rfl, xs, SqL.of hp⟩, p, xs, y, rfl, rfl, hp, hy, ?_⟩
      have e1 := env.write hj hv hdr
      have fe : FExt E H (upd H p (.lst xs.dropLast)) := fun b o q hb => by rw [upd_ne (fun z : b = p => hb (by rw [z]; exact hE))]; exact q
      exact sv.nx _ h E _ _ (e1.set (Dn.ext fe _ _ dy))
    · exact h.elim
  · exact h.elim
@[simp] theorem x_spop {i j : Nat} {Z : DEnds} {ρ : Rho} : spop i j Z ρ = (match ρ[j]? with
  | some (some (.ml ds)) => (match ds.getLast? with
    | some d => Z.nx ((ρ.set j (some (.ml ds.dropLast))).set i (some (.im d)))
    | none => False)
  | _ => False) := rfl
/-! sum of a list of ints -/
def rSumL : RCD := fun ds q => match ds with
  | [.lst xs] => (match intsD xs with
    | some ns => q (.int ns.sum)
    | none => False)
  | _ => False
theorem c_sumL (hc : X.calm = true) : CallD X (.builtin "sum") rSumL := by
  refine ⟨_, cr_sum hc, fun F E H ds vs q Q hF at_ hv h k => ?_⟩
  unfold rSumL at h
  split at h
  · rename_i xs
    obtain ⟨v, rfl, a, ys, rfl, t, g⟩ := hv.one
    cases qi : intsD xs with
    | none => rw [qi] at h; exact h.elim
    | some ns =>
      rw [qi] at h
      have ex := intsD_of g qi
      subst ex
      exact ⟨a, ns, rfl, t.sq, k _ h _ H (XExt.refl at_.so) rfl⟩
  · exact h.elim
@[simp] theorem x_rSumL {xs : List D} {q : D → Prop} : rSumL [.lst xs] q = (match intsD xs with
  | some ns => q (.int ns.sum)
  | none => False) := rfl
end DL

set_option Elab.async false
set_option linter.all false
set_option maxRecDepth 100000
set_option maxHeartbeats 4000000
/-! an own exception whose __init__ says super().__init__('..') over a class over ValueError, then stores its fields -/
namespace EXI
open PySem PySem.W PySem.Calls PyProof.Rows
/-- what the written part says of such a class and its __init__ -/
structure SupC (K : Frag) (C fI cda cc : Addr) : Prop where
  cls : ∃ nm q N bs bm sn sub ab col dd k0 k1 k2 k3 k5, K.lookup C = some (excClassObj nm q C N bs bm true sn sub ab col dd k0 k1 k2 k3 k5 "ValueError.__new__") ∧ PySem.HandSPX.refsVE bm = true
  sup : ks_superIn K C C "__init__" = some (some (.builtin "ValueError.__init__"))
  noq : nsIn K cStatics "thirdparty.any" = some none
  subB : subIn K (.ref C) (.type "ValueError") = some true
  mroC : mroIn K C (.ref C) = some true
  sa : findIn K (.ref C) "__setattr__" = some (some (.builtin "object.__setattr__"))
  exC : subIn K (.ref C) (.type "BaseException") = some true
  tyC : typeIn K (.ref C) = some (.type "type")
  kC : keepIn K (.ref C) = true
  cel : ∃ cl cld csl, K.lookup cc = some ⟨cl, cld, .cell (some (.ref C)), csl⟩
section
variable {prog : Program} {w : World} {A : Around} {E : Value → Shared → Prop} {s : Shared} {K : Frag} {C fI cda cc e t0 L : Addr} {qual : Str} {scope : Scope} {body : List Stmt} {m : Str → Option Value} {mg mb : Str → Option Value}
/-- super().__init__('..') -/
theorem sup_stmt {p0 p1 p2 p3 p4 p5 : Pos} {j} {msg : Str} {fd : FuncData} {ar : Arg} {vs : Array Value} {file : Str} {tf : Tok} {oc ccl : Value} {od cdd : Option Addr} {osl ccs : Array (Option Value)} {Q : Flow → Shared → Prop}
    (S : SupC K C fI cda cc) (X : K.In s.heap) (hG : s.heap.Ns mainGlobals mg) (hmg : mg "super" = none) (hB : s.heap.Ns builtinsNs mb) (hmb : mb "super" = some (.type "super")) (hL : s.heap.Ns L m) (hv : m ar.arg = some (.ref e)) (he : s.heap.get? e = some (PySem.HandSPX.excO C t0))
    (hf : K.lookup fI = some ⟨oc, od, .func fd, osl⟩) (hp : (fd.params.posonlyargs ++ fd.params.args).head? = some ar)
    (hcode : K.lookup cda = some ⟨ccl, cdd, .fields vs, ccs⟩) (hvs : vs[2]? = some (.str file tf)) (hfile : ((prog.main.file : Str) == file) = true)
    (hks : scope.names.lookup ("super" : Str) = some .globalImplicit) (hkc : scope.names.lookup ("__class__" : Str) = some .free) (hka : scope.names.lookup ar.arg = some .local) (hk : scope.kind = .function)
    (htop : (prog.main.scope.names.lookup ("super" : Str)).isSome = false)
    (hint : interactive (ksEnv qual scope L fI (.ref cda) cc) = false) {pl : Sem Bool}
    (hev : eval (.Call (.Attribute (.Call (.Name "super" p0) [] [] p1) "__init__" p2) [.Constant (.str msg) j p3] [] p4) (ksEnv qual scope L fI (.ref cda) cc) = (do
      let ov ← attributeBase (.Call (.Name "super" p0) [] [] p1) "__init__" (ksEnv qual scope L fI (.ref cda) cc) (eval (.Call (.Name "super" p0) [] [] p1) (ksEnv qual scope L fI (.ref cda) cc))
      standAt p2.atName
      let (f, first) ← holding [ov] (getMethod ov "__init__" pl)
      callWith p4 f first (backTo p4 (starEach [.Constant (.str msg) j p3] (ksEnv qual scope L fI (.ref cda) cc))) []))
    (h : ∀ h' t1 tk, (∀ b o, b ≠ e → s.heap.get? b = some o → h'.get? b = some o) → h'.get? e = some (PySem.HandSPX.excO C t1) → Q .next { s with heap := h', toks := tk }) :
    _root_.PySem.wpAt (model prog w) A (.func body (ksEnv qual scope L fI (.ref cda) cc)) (exec (.Expr (.Call (.Attribute (.Call (.Name "super" p0) [] [] p1) "__init__" p2) [.Constant (.str msg) j p3] [] p4) p5) (ksEnv qual scope L fI (.ref cda) cc)) Q E s := by
  obtain ⟨nm, q, N, bs, bm, sn, sub, ab, col, dd, k0, k1, k2, k3, k5, hC, hbm⟩ := S.cls
  obtain ⟨cl, cld, csl, hcell⟩ := S.cel
  have hclI : clsIn K C = some { name := nm, bases := bs, mro := .ref C :: bm, ns := N, qualname := q, hasDict := true, slotNames := sn, subclasses := sub, abstract := ab, collection := col, hasDel := false } := by unfold clsIn; rw [hC] <;> rfl
  obtain ⟨hh, g, d, t, os⟩ := s
  have hD1 := X _ _ hC
  have hxC : e ≠ C := fun z => by
    rw [z, hD1] at he
    cases he
  refine ks_wpAt_Expr_any ?_ hint
  refine ks_wpAt_MethodCall ?_ hev
  refine ks_wpAt_super_base (env := ksEnv qual scope L fI (.ref cda) cc) hks hkc (by decide) rfl (X _ _ hf) rfl hp rfl (X _ _ hcode) rfl hvs hfile htop ?_
  refine ks_loadName_global hk hks (loadGlobal_builtin (env := ksEnv qual scope L fI (.ref cda) cc) hG hmg hB hmb ⟨rfl, ?_⟩)
  refine wpAny_loadName_free hk hkc rfl ⟨_, X _ _ hcell, rfl⟩ ?_
  refine wpAny_loadName_local hk hka hL hv ?_
  refine ks_wpAny_isType_cls hD1 rfl ⟨rfl, ?_⟩
  refine ks_wpAny_call_super hD1 rfl he rfl (fun c z => by cases z) (looks_mroIn X S.mroC) (fun h1 e1 k1' => ?_)
  have X1 : K.In h1 := X.keeps k1'
  have he1 := k1' _ _ he
  have I1 : InstAt h1 e (PySem.HandSPX.excO C t0) C none := ⟨he1, rfl, rfl, trivial⟩
  have hm := S.sup
  unfold ks_superIn at hm
  rw [hclI] at hm
  have hI : Looks (model prog w) h1 (isInstance (.ref e) (.type "ValueError")) true := I1.type.andThen (looks_subIn X1 S.subB)
  refine kxs_getMethod (B := "ValueError") (i := "ValueError.__init__") kxs_ValueError (C := C) (D := C) (x := e) e1 (looks_opaque X1 S.noq) (l₀ := .ref C :: bm) ?_ rfl X1 hm hI hxC (by decide) ?_
  · exact fun A Q E s k q => wpAny_bind ((looks_clsIn X1 hclI) A _ E s k (wpAny_pure q))
  have hu0 : (h1.push (kxs_mw "ValueError.__init__" e)).get? h1.objs.size = some (kxs_mw "ValueError.__init__" e) := Heap.get?_push_at rfl rfl
  refine kxs_callWith (i := "ValueError.__init__") (x := e) rfl (evalArgs_plain ?_)
  refine spliced_cons (Constant_str (k := j) (pos := p3) ?_)
  refine spliced_nil ⟨hu0, ?_⟩
  have k2 : ∀ b o, h1.get? b = some o → (h1.push (kxs_mw "ValueError.__init__" e)).get? b = some o := fun b o z => Heap.get?_push_of_some _ z
  have hC2 := k2 _ _ (k1' _ _ hD1)
  have he2 := k2 _ _ he1
  refine wpAny_call (codeAny_of_tree ?_)
  show wpAny _ A.in1 (callAny (.ref h1.objs.size) ⟨[.str msg _], []⟩) _ _ _
  simp only [callAny]
  refine wpAny_bind (wpAny_load hu0 ?_)
  simp only [kxs_mw, show (Value.type "method-wrapper" == Value.type "method" || Value.type "method-wrapper" == Value.type "builtin_function_or_method" || Value.type "method-wrapper" == Value.type "method-wrapper") = true by decide, if_true]
  refine KFB.if_so (by decide) ?_
  refine wpAny_bind (check_bound_init F.excBase_ValueError.toExcCallFacts hC2 he2 rfl ?_)
  refine wpAny_bind (wpAny_pure (wpAny_pure ?_))
  refine ⟨plainId_quiet F.excBase_ValueError.init.plain _, codeAny_builtin F.excBase_ValueError.initEntry ?_⟩
  refine exc_init_tree (cls := .ref C) (t0 := t0) (dv := none) (c2 := .none) (c3 := .none) (b4 := .bool false) he2 (by show 1 ≤ sizeLine; rw [sizeLine_eq]; omega) fun h' k3 e3 t3 => ?_
  exact h h' _ _ (fun b o hb z => k3 b o hb (k2 b o (k1' b o z))) e3
/-- the fields behind it -/
theorem one_stmt {p6 p7 p8 p9 : Pos} {f x sf : Str} {h : Heap} {g : Array GenState} {d : Drawn} {t : Nat} {os : OsState} {t1 : Addr} {u : Value} {Q : Flow → Shared → Prop} (S : SupC K C fI cda cc) (X : K.In h) (hno : findIn K (.ref C) f = some none) (hL : h.Ns L m)
    (hvs : m sf = some (.ref e)) (hvx : m x = some u) (hk : scope.kind = .function) (hks : scope.names.lookup sf = some .local) (hkx : scope.names.lookup x = some .local) (hds : (sf == ("__debug__" : Str)) = false) (hdx : (x == ("__debug__" : Str)) = false) (he : h.get? e = some (PySem.HandSPX.excO C t1))
    (hs : swapsWith (.Name x p8) (some (.Attribute (.Name sf p6) f p7)) p9.line (ksEnv qual scope L fI (.ref cda) cc) = pure false)
    (hq : ∀ h' tk dx, (∀ b o, b ≠ e → h.get? b = some o → h'.get? b = some o) → h.objs.size ≤ dx → dx ≠ e → h'.get? e = some { cls := .ref C, dict := some dx, data := .fields #[.ref t1, .none, .none, .none, .bool false, .none] } →
      h'.Ns1 dx (fun y => if y = f then some u else none) → Q .next ⟨h', g, d, tk, os⟩) :
    wpAny (model prog w) A (exec (.Assign [.Attribute (.Name sf p6) f p7] (.Name x p8) p9) (ksEnv qual scope L fI (.ref cda) cc)) Q E ⟨h, g, d, t, os⟩ := by
  obtain ⟨nm, q, N, bs, bm, sn, sub, ab, col, dd, k0, k1, k2, k3, k5, hC, hbm⟩ := S.cls
  have hclI : clsIn K C = some { name := nm, bases := bs, mro := .ref C :: bm, ns := N, qualname := q, hasDict := true, slotNames := sn, subclasses := sub, abstract := ab, collection := col, hasDel := false } := by unfold clsIn; rw [hC] <;> rfl
  refine plainObj_wpAny_Assign_Attribute (PySem.ESX.ldL hL hvx (PySem.ESX.ldL hL hvs ?_ hk hks hds) hk hkx hdx) hs
  refine set_plain X (ox := PySem.HandSPX.excO C t1) (od := none) ⟨he, rfl, rfl, trivial⟩ S.sa ?_
  exact PySem.HandSPX.exc_osa X he hclI (show PySem.HandSPX.refsVE (.ref C :: bm) = true from hbm) rfl hno fun h' tk' dx k dn dne hx hn => hq h' tk' dx k dn dne hx hn
theorem two_stmt {p6 p7 p8 p9 : Pos} {f x sf : Str} {h : Heap} {g : Array GenState} {d : Drawn} {t : Nat} {os : OsState} {t1 dx : Addr} {u : Value} {m0 : Str → Option Value} {nl : List Str} {Q : Flow → Shared → Prop} (S : SupC K C fI cda cc) (X : K.In h) (hno : findIn K (.ref C) f = some none) (hL : h.Ns L m)
    (hvs : m sf = some (.ref e)) (hvx : m x = some u) (hk : scope.kind = .function) (hks : scope.names.lookup sf = some .local) (hkx : scope.names.lookup x = some .local) (hds : (sf == ("__debug__" : Str)) = false) (hdx : (x == ("__debug__" : Str)) = false)
    (he : h.get? e = some { cls := .ref C, dict := some dx, data := .fields #[.ref t1, .none, .none, .none, .bool false, .none] }) (hns : h.Ns1 dx m0) (hw : Within m0 nl) (hz : nl.length ≤ 1000)
    (hs : swapsWith (.Name x p8) (some (.Attribute (.Name sf p6) f p7)) p9.line (ksEnv qual scope L fI (.ref cda) cc) = pure false)
    (hq : ∀ h' tk, (∀ b o, b ≠ dx → h.get? b = some o → h'.get? b = some o) → h'.Ns1 dx (fun y => if y = f then some u else m0 y) → Q .next ⟨h', g, d, tk, os⟩) :
    wpAny (model prog w) A (exec (.Assign [.Attribute (.Name sf p6) f p7] (.Name x p8) p9) (ksEnv qual scope L fI (.ref cda) cc)) Q E ⟨h, g, d, t, os⟩ := by
  obtain ⟨nm, q, N, bs, bm, sn, sub, ab, col, dd, k0, k1, k2, k3, k5, hC, hbm⟩ := S.cls
  have hclI : clsIn K C = some { name := nm, bases := bs, mro := .ref C :: bm, ns := N, qualname := q, hasDict := true, slotNames := sn, subclasses := sub, abstract := ab, collection := col, hasDel := false } := by unfold clsIn; rw [hC] <;> rfl
  obtain ⟨oD, _, _, hoD, _, _⟩ := hns.count hw
  refine plainObj_wpAny_Assign_Attribute (PySem.ESX.ldL hL hvx (PySem.ESX.ldL hL hvs ?_ hk hks hds) hk hkx hdx) hs
  refine set_plain X (ox := { cls := .ref C, dict := some dx, data := .fields #[.ref t1, .none, .none, .none, .bool false, .none] }) (od := some oD) ⟨he, rfl, rfl, hoD⟩ S.sa ?_
  exact PySem.OEX.osa_old X he hns hw hz hclI (show PySem.HandSPX.refsVE (.ref C :: bm) = true from hbm) rfl hno fun h' tk' k hn => hq h' tk' k hn
end

/-- the init def as it stands written -/
structure InitC (prog : Program) (K : Frag) (C fI cda cc : Addr) (params : Arguments) (body : List Stmt) (scope : Scope) (qual : Str) : Prop where
  fn : ∃ oc od osl doc pm an ct, K.lookup fI = some ⟨oc, od, .func (ksFn "__init__" qual params body scope .none .none doc pm an (.ref cda) ct cc), osl⟩
  iC : findIn K (.ref C) "__init__" = some (some (.ref fI))
  tI : typeIn K (.ref fI) = some (.type "function")
  code : codeIn K (.ref cda) qual = true
  file : ∃ ccl cdd vs ccs file tf, K.lookup cda = some ⟨ccl, cdd, .fields vs, ccs⟩ ∧ vs[2]? = some (.str file tf) ∧ ((prog.main.file : Str) == file) = true
  top : (prog.main.scope.names.lookup ("super" : Str)).isSome = false
/-- the shape of its scope -/
structure InitS (params : Arguments) (scope : Scope) (x : List Str) : Prop where
  hp : ∃ ar, (params.posonlyargs ++ params.args).head? = some ar ∧ ar.arg = "self"
  hks : scope.names.lookup ("super" : Str) = some .globalImplicit
  hkc : scope.names.lookup ("__class__" : Str) = some .free
  hka : scope.names.lookup ("self" : Str) = some .local
  hkx : ∀ y ∈ x, scope.names.lookup y = some .local ∧ y ≠ "self" ∧ (y == ("__debug__" : Str)) = false
  hk : scope.kind = .function
  hco : scope.isCoroutine = false
  hgen : scope.isGenerator = false
  hcell : ∀ x ∈ scope.names, x.2 ≠ .cell
section
variable {prog : Program} {w : World} {A : Around} {R : Result → Shared → Prop} {s : Shared} {K : Frag} {C fI cda cc e t0 : Addr} {qual : Str} {scope : Scope} {params : Arguments} {mg mb : Str → Option Value}
theorem init1 {p0 p1 p2 p3 p4 p5 p6 p7 p8 p9 : Pos} {j} {msg f x : Str} {u : Value}
    (S : SupC K C fI cda cc) (I : InitC prog K C fI cda cc params [.Expr (.Call (.Attribute (.Call (.Name "super" p0) [] [] p1) "__init__" p2) [.Constant (.str msg) j p3] [] p4) p5, .Assign [.Attribute (.Name "self" p6) f p7] (.Name x p8) p9] scope qual) (T : InitS params scope [x])
    (hno : findIn K (.ref C) f = some none) (hint : ∀ L, interactive (ksEnv qual scope L fI (.ref cda) cc) = false) (hpl : ∀ L, ∃ pl : Sem Bool, eval (.Call (.Attribute (.Call (.Name "super" p0) [] [] p1) "__init__" p2) [.Constant (.str msg) j p3] [] p4) (ksEnv qual scope L fI (.ref cda) cc) = (do
      let ov ← attributeBase (.Call (.Name "super" p0) [] [] p1) "__init__" (ksEnv qual scope L fI (.ref cda) cc) (eval (.Call (.Name "super" p0) [] [] p1) (ksEnv qual scope L fI (.ref cda) cc))
      standAt p2.atName
      let (f, first) ← holding [ov] (getMethod ov "__init__" pl)
      callWith p4 f first (backTo p4 (starEach [.Constant (.str msg) j p3] (ksEnv qual scope L fI (.ref cda) cc))) []))
    (hsw : ∀ L, swapsWith (.Name x p8) (some (.Attribute (.Name "self" p6) f p7)) p9.line (ksEnv qual scope L fI (.ref cda) cc) = pure false)
    (hbind : ∀ doc pm an ct, BindsTo s (ksFn "__init__" qual params [.Expr (.Call (.Attribute (.Call (.Name "super" p0) [] [] p1) "__init__" p2) [.Constant (.str msg) j p3] [] p4) p5, .Assign [.Attribute (.Name "self" p6) f p7] (.Name x p8) p9] scope .none .none doc pm an (.ref cda) ct cc) ⟨[.ref e, u], []⟩ [("self", .ref e), (x, u)])
    (X : K.In s.heap) (lim : s.heap.NoLimit) (hG : s.heap.Ns mainGlobals mg) (hmg : mg "super" = none) (hB : s.heap.Ns builtinsNs mb) (hmb : mb "super" = some (.type "super")) (hroom : A.depth < recursionLimit) (he : s.heap.get? e = some (PySem.HandSPX.excO C t0)) (hKe : ∀ o, K.lookup e ≠ some o)
    (h : ∀ h' dx t1 tk', (∀ b o, b ≠ e → s.heap.get? b = some o → h'.get? b = some o) → s.heap.objs.size ≤ dx → dx ≠ e → h'.get? e = some { cls := .ref C, dict := some dx, data := .fields #[.ref t1, .none, .none, .none, .bool false, .none] } →
      h'.Ns1 dx (fun y => if y = f then some u else none) → R (.ok (.ret .none)) { s with heap := h', toks := tk' }) :
    codeAny (model prog w) A (.call (.ref fI) ⟨[.ref e, u], []⟩) R s := by
  obtain ⟨oc, od, osl, doc, pm, an, ct, ho⟩ := I.fn
  obtain ⟨ccl, cdd, vs, ccs, file, tf, hcode, hvs, hfile⟩ := I.file
  obtain ⟨ar, hp, har⟩ := T.hp
  obtain ⟨hkx, nx, hdx⟩ := T.hkx x (List.mem_cons_self ..)
  refine ks_codeAny_call_defAt (fd := ksFn "__init__" qual params _ scope .none .none doc pm an (.ref cda) ct cc) (binds := [("self", .ref e), (x, u)]) hroom (X _ _ ho) rfl lim (codeRec_of X I.code) rfl (hbind doc pm an ct) T.hcell (fun y hy => ?_) (fun h0 hns k0 => ?_) T.hco T.hgen T.hk
  · rcases List.mem_cons.mp hy with rfl | hy
    · exact T.hka
    · rw [List.mem_singleton.mp hy]; exact hkx
  have m1 : ([("self", Value.ref e), (x, u)] : List (Str × Value)).reverse.lookup ("self" : Str) = some (Value.ref e) := by
    have : (("self" : Str) == x) = false := by simpa using Ne.symm nx
    simp [List.lookup, this]
  have m2 : ([("self", Value.ref e), (x, u)] : List (Str × Value)).reverse.lookup x = some u := by simp [List.lookup]
  obtain ⟨pl, hev⟩ := hpl s.heap.objs.size
  refine ks_wpAt_execs_cons ?_
  refine sup_stmt (A := A.deeper _) (mg := mg) (mb := mb) (m := fun y => ([("self", Value.ref e), (x, u)] : List (Str × Value)).reverse.lookup y) (s := { s with heap := h0, toks := s.toks + 2 }) S (X.keeps k0) (hG.keeps k0) hmg (hB.keeps k0) hmb hns (by rw [har]; exact m1) (k0 _ _ he) ho hp hcode hvs hfile T.hks T.hkc (by rw [har]; exact T.hka) T.hk I.top (hint _) hev (fun h1 t1 tk1 k1 e1 => ?_)
  refine wpAt_of_wpAny (wpAny_execs_cons ?_)
  have neL : s.heap.objs.size ≠ e := fun z => absurd (Heap.lt_size he) (by rw [← z]; exact Nat.lt_irrefl _)
  have hL1 : h1.Ns s.heap.objs.size (fun y => ([("self", Value.ref e), (x, u)] : List (Str × Value)).reverse.lookup y) := by
    obtain ⟨o, es, ep, ho', hr⟩ := hns
    exact ⟨o, es, ep, k1 _ _ neL ho', hr⟩
  have X1 : K.In h1 := fun b o z => k1 b o (fun y => hKe o (y ▸ z)) (X.keeps k0 b o z)
  refine one_stmt S X1 hno hL1 m1 m2 T.hk T.hka hkx (by decide) hdx e1 (hsw _) (fun h2 tk2 dx k2 dn dne hx hn => ?_)
  refine wpAny_execs_nil ?_
  refine h h2 dx _ _ (fun b o hb z => k2 b o hb (k1 b o hb (k0 b o z))) (Nat.le_trans ?_ dn) dne hx hn
  obtain ⟨o, es, ep, ho', hr⟩ := hL1
  exact Nat.le_of_lt (Heap.lt_size ho')
theorem init2 {p0 p1 p2 p3 p4 p5 p6 p7 p8 p9 q6 q7 q8 q9 : Pos} {j} {msg f x f2 x2 : Str} {u u2 : Value}
    (S : SupC K C fI cda cc) (I : InitC prog K C fI cda cc params [.Expr (.Call (.Attribute (.Call (.Name "super" p0) [] [] p1) "__init__" p2) [.Constant (.str msg) j p3] [] p4) p5, .Assign [.Attribute (.Name "self" p6) f p7] (.Name x p8) p9, .Assign [.Attribute (.Name "self" q6) f2 q7] (.Name x2 q8) q9] scope qual) (T : InitS params scope [x, x2]) (hxx : x ≠ x2)
    (hno : findIn K (.ref C) f = some none) (hno2 : findIn K (.ref C) f2 = some none) (hint : ∀ L, interactive (ksEnv qual scope L fI (.ref cda) cc) = false) (hpl : ∀ L, ∃ pl : Sem Bool, eval (.Call (.Attribute (.Call (.Name "super" p0) [] [] p1) "__init__" p2) [.Constant (.str msg) j p3] [] p4) (ksEnv qual scope L fI (.ref cda) cc) = (do
      let ov ← attributeBase (.Call (.Name "super" p0) [] [] p1) "__init__" (ksEnv qual scope L fI (.ref cda) cc) (eval (.Call (.Name "super" p0) [] [] p1) (ksEnv qual scope L fI (.ref cda) cc))
      standAt p2.atName
      let (f, first) ← holding [ov] (getMethod ov "__init__" pl)
      callWith p4 f first (backTo p4 (starEach [.Constant (.str msg) j p3] (ksEnv qual scope L fI (.ref cda) cc))) []))
    (hsw : ∀ L, swapsWith (.Name x p8) (some (.Attribute (.Name "self" p6) f p7)) p9.line (ksEnv qual scope L fI (.ref cda) cc) = pure false)
    (hsw2 : ∀ L, swapsWith (.Name x2 q8) (some (.Attribute (.Name "self" q6) f2 q7)) q9.line (ksEnv qual scope L fI (.ref cda) cc) = pure false)
    (hbind : ∀ doc pm an ct, BindsTo s (ksFn "__init__" qual params [.Expr (.Call (.Attribute (.Call (.Name "super" p0) [] [] p1) "__init__" p2) [.Constant (.str msg) j p3] [] p4) p5, .Assign [.Attribute (.Name "self" p6) f p7] (.Name x p8) p9, .Assign [.Attribute (.Name "self" q6) f2 q7] (.Name x2 q8) q9] scope .none .none doc pm an (.ref cda) ct cc) ⟨[.ref e, u, u2], []⟩ [("self", .ref e), (x, u), (x2, u2)])
    (X : K.In s.heap) (lim : s.heap.NoLimit) (hG : s.heap.Ns mainGlobals mg) (hmg : mg "super" = none) (hB : s.heap.Ns builtinsNs mb) (hmb : mb "super" = some (.type "super")) (hroom : A.depth < recursionLimit) (he : s.heap.get? e = some (PySem.HandSPX.excO C t0)) (hKe : ∀ o, K.lookup e ≠ some o)
    (h : ∀ h' dx t1 tk', (∀ b o, b ≠ e → s.heap.get? b = some o → h'.get? b = some o) → s.heap.objs.size ≤ dx → dx ≠ e → h'.get? e = some { cls := .ref C, dict := some dx, data := .fields #[.ref t1, .none, .none, .none, .bool false, .none] } →
      h'.Ns1 dx (fun y => if y = f2 then some u2 else if y = f then some u else none) → R (.ok (.ret .none)) { s with heap := h', toks := tk' }) :
    codeAny (model prog w) A (.call (.ref fI) ⟨[.ref e, u, u2], []⟩) R s := by
  obtain ⟨oc, od, osl, doc, pm, an, ct, ho⟩ := I.fn
  obtain ⟨ccl, cdd, vs, ccs, file, tf, hcode, hvs, hfile⟩ := I.file
  obtain ⟨ar, hp, har⟩ := T.hp
  obtain ⟨hkx, nx, hdx⟩ := T.hkx x (List.mem_cons_self ..)
  obtain ⟨hkx2, nx2, hdx2⟩ := T.hkx x2 (List.mem_cons_of_mem _ (List.mem_cons_self ..))
  refine ks_codeAny_call_defAt (fd := ksFn "__init__" qual params _ scope .none .none doc pm an (.ref cda) ct cc) (binds := [("self", .ref e), (x, u), (x2, u2)]) hroom (X _ _ ho) rfl lim (codeRec_of X I.code) rfl (hbind doc pm an ct) T.hcell (fun y hy => ?_) (fun h0 hns k0 => ?_) T.hco T.hgen T.hk
  · rcases List.mem_cons.mp hy with rfl | hy
    · exact T.hka
    · rcases List.mem_cons.mp hy with rfl | hy
      · exact hkx
      · rw [List.mem_singleton.mp hy]; exact hkx2
  have m1 : ([("self", Value.ref e), (x, u), (x2, u2)] : List (Str × Value)).reverse.lookup ("self" : Str) = some (Value.ref e) := by
    have e1 : (("self" : Str) == x) = false := by simpa using Ne.symm nx
    have e2 : (("self" : Str) == x2) = false := by simpa using Ne.symm nx2
    simp [List.lookup, e1, e2]
  have m2 : ([("self", Value.ref e), (x, u), (x2, u2)] : List (Str × Value)).reverse.lookup x = some u := by
    have e1 : (x == x2) = false := by simpa using hxx
    simp [List.lookup, e1]
  have m3 : ([("self", Value.ref e), (x, u), (x2, u2)] : List (Str × Value)).reverse.lookup x2 = some u2 := by simp [List.lookup]
  obtain ⟨pl, hev⟩ := hpl s.heap.objs.size
  refine ks_wpAt_execs_cons ?_
  refine sup_stmt (A := A.deeper _) (mg := mg) (mb := mb) (m := fun y => ([("self", Value.ref e), (x, u), (x2, u2)] : List (Str × Value)).reverse.lookup y) (s := { s with heap := h0, toks := s.toks + 3 }) S (X.keeps k0) (hG.keeps k0) hmg (hB.keeps k0) hmb hns (by rw [har]; exact m1) (k0 _ _ he) ho hp hcode hvs hfile T.hks T.hkc (by rw [har]; exact T.hka) T.hk I.top (hint _) hev (fun h1 t1 tk1 k1 e1 => ?_)
  refine wpAt_of_wpAny (wpAny_execs_cons ?_)
  have neL : s.heap.objs.size ≠ e := fun z => absurd (Heap.lt_size he) (by rw [← z]; exact Nat.lt_irrefl _)
  have hL1 : h1.Ns s.heap.objs.size (fun y => ([("self", Value.ref e), (x, u), (x2, u2)] : List (Str × Value)).reverse.lookup y) := by
    obtain ⟨o, es, ep, ho', hr⟩ := hns
    exact ⟨o, es, ep, k1 _ _ neL ho', hr⟩
  have X1 : K.In h1 := fun b o z => k1 b o (fun y => hKe o (y ▸ z)) (X.keeps k0 b o z)
  refine one_stmt S X1 hno hL1 m1 m2 T.hk T.hka hkx (by decide) hdx e1 (hsw _) (fun h2 tk2 dx k2 dn dne hx hn => ?_)
  refine wpAny_execs_cons ?_
  have hL2 : h2.Ns s.heap.objs.size (fun y => ([("self", Value.ref e), (x, u), (x2, u2)] : List (Str × Value)).reverse.lookup y) := by
    obtain ⟨o, es, ep, ho', hr⟩ := hL1
    exact ⟨o, es, ep, k2 _ _ neL ho', hr⟩
  have X2 : K.In h2 := fun b o z => k2 b o (fun y => hKe o (y ▸ z)) (X1 b o z)
  have hw : Within (fun y => if y = f then some u else none) [f] := fun y hy => by
    by_cases c : y = f
    · rw [c]; exact List.mem_cons_self ..
    · exact absurd (if_neg c) hy
  have ned : ∀ b o, s.heap.get? b = some o → b ≠ dx := fun b o z y => by
    have a1 := Heap.lt_size z
    have a2 : s.heap.objs.size ≤ h1.objs.size := by
      obtain ⟨o, es, ep, ho', hr⟩ := hL1
      exact Nat.le_of_lt (Heap.lt_size ho')
    rw [y] at a1
    exact absurd (Nat.lt_of_lt_of_le a1 (Nat.le_trans a2 dn)) (Nat.lt_irrefl _)
  refine two_stmt S X2 hno2 hL2 m1 m3 T.hk T.hka hkx2 (by decide) hdx2 hx hn hw (by simp) (hsw2 _) (fun h3 tk3 k3 hn3 => ?_)
  refine wpAny_execs_nil ?_
  refine h h3 dx _ _ (fun b o hb z => k3 b o (ned b o z) (k2 b o hb (k1 b o hb (k0 b o z)))) (Nat.le_trans ?_ dn) dne (k3 _ _ (Ne.symm dne) hx) hn3
  obtain ⟨o, es, ep, ho', hr⟩ := hL1
  exact Nat.le_of_lt (Heap.lt_size ho')
end
end EXI

set_option Elab.async false
set_option linter.all false
set_option maxRecDepth 100000
set_option maxHeartbeats 4000000
/-! making such exceptions, as rules of the hand layer -/
namespace EXI
open PySem PySem.W PySem.Spec PySem.Calls PyProof.Rows L2
section
variable {X : Cx} {C fI cda cc : Addr} {params : Arguments} {scope : Scope} {qual : Str} {ta tb : TE} {x f n f2 n2 : Str} {e1 e2 : Expr} {p pos : Pos}
/-- behind the making: the exception apart -/
theorem mk_done {pins : List (Addr × Obj)} {σ : L2.St} {H1 : Hp} {Q : XK} {hp h' : Heap} {g : Array GenState} {d : Drawn} {t t' : Nat} {os : OsState} {a dx t1 : Addr} {fs : List (Str × V)} {mA : Str → Option Value} (T : Raises X (.ref C)) (I1 : Inv X pins σ H1 ⟨hp, g, d, t, os⟩)
    (ha : hp.get? a = none) (hs : hp.objs.size ≤ dx) (k : ∀ b o, hp.get? b = some o → h'.get? b = some o) (ea : h'.get? a = some { cls := .ref C, dict := some dx, data := .fields #[.ref t1, .none, .none, .none, .bool false, .none] }) (hda : dx ≠ a)
    (hn : h'.Ns1 dx mA) (r : ∀ f, RelO (fs.lookup f) (mA f)) (na : H1 a = none) (q : Q (.ref C) (some dx) (upd H1 dx (.xd fs))) : L2N.MkP X pins σ Q (.ref a) ⟨h', g, d, t', os⟩ := by
  obtain ⟨G, g1, g2⟩ := restrict h' fun b => decide (b ≠ a)
  have gk : ∀ b, b ≠ a → G.get? b = h'.get? b := fun b hb => g1 b (decide_eq_true hb)
  have ge : G.get? a = none := g2 a (by simp)
  have nha : ∀ {b : Addr} {o : Obj}, hp.get? b = some o → b ≠ a := fun {b o} z y => by rw [y, ha] at z; cases z
  have kk : ∀ b o, hp.get? b = some o → G.get? b = some o := fun b o z => (gk b (nha z)).trans (k b o z)
  have ok : ObjOk X.prog X.w (upd H1 dx (.xd fs)) G dx (.xd fs) := ⟨mA, by
    obtain ⟨o, es, ep, ho, hr⟩ := hn
    exact ⟨o, es, ep, (gk dx hda).trans ho, hr⟩, r⟩
  have J := I1.laid (t' := t') (h' := G) kk hs ok
  refine ⟨a, _, _, ⟨G, g, d, t', os⟩, _, .ref C, some dx, rfl, J, fun b o z => ?_, ge, ea, ⟨rfl, rfl, fun vs z => by cases z; rfl⟩, rfl, rfl, ?_, rfl, I1.bare, T, q⟩
  · by_cases hba : b = a
    · rw [hba, ge] at z; cases z
    · exact (gk b hba).symm.trans z
  · rw [upd_ne (Ne.symm hda)]; exact na
/-- X() -/
theorem pmk_own0 {bmB : List Value} {B newId initId : String} (F : ExcBaseFacts B newId initId bmB) (q : excIn X.K C bmB newId = true) (gC : X.mg x = some (.ref C)) (kC : keepIn X.K (.ref C) = true) (r : Raises X (.ref C)) (hg : Gl X x)
    (hdb : (x == ("__debug__" : Str)) = false := by decide) : L2N.PMk X (.Call (.Name x p) [] [] pos) (fun _ H Q => Q (.ref C) none H) := by
  intro pins s σ H Q I h
  refine wpAny_Call_Name_kw (ld_glob I hg gC ?_ hdb)
  refine callWith_K0 I.kIn kC ?_
  obtain ⟨bm, N, nm, qn, bs, hdct, sn, sub, ab, col, dd, k0, k1, k2, k3, k5, mN, hC, hN, hni, T⟩ := exc_obj I.kIn q
  refine wpAny_call_exc_subT F T hC hN hni (fun h' e hm => ?_) (by show 0 ≤ sizeLine; omega)
  exact L2N.mk_of I hm r h (I.hok.gone hm.new)
/-- X(e), its __init__ as in init1 -/
def Runs1 (prog : Program) (K : Frag) (C fI : Addr) (f : Str) : Prop := ∀ (w : World) (A : Around) (R : Result → Shared → Prop) (s : Shared) (e t0 : Addr) (u : Value) (mg mb : Str → Option Value), K.In s.heap → s.heap.NoLimit → s.heap.Ns mainGlobals mg → mg "super" = none → s.heap.Ns builtinsNs mb → mb "super" = some (.type "super") →
  A.depth < recursionLimit → s.heap.get? e = some (PySem.HandSPX.excO C t0) → (∀ o, K.lookup e ≠ some o) →
  (∀ h' dx t1 tk', (∀ b o, b ≠ e → s.heap.get? b = some o → h'.get? b = some o) → s.heap.objs.size ≤ dx → dx ≠ e → h'.get? e = some { cls := .ref C, dict := some dx, data := .fields #[.ref t1, .none, .none, .none, .bool false, .none] } →
      h'.Ns1 dx (fun y => if y = f then some u else none) → R (.ok (.ret .none)) { s with heap := h', toks := tk' }) →
  codeAny (model prog w) A (.call (.ref fI) ⟨[.ref e, u], []⟩) R s
def Runs2 (prog : Program) (K : Frag) (C fI : Addr) (f f2 : Str) : Prop := ∀ (w : World) (A : Around) (R : Result → Shared → Prop) (s : Shared) (e t0 : Addr) (u u2 : Value) (mg mb : Str → Option Value), K.In s.heap → s.heap.NoLimit → s.heap.Ns mainGlobals mg → mg "super" = none → s.heap.Ns builtinsNs mb → mb "super" = some (.type "super") →
  A.depth < recursionLimit → s.heap.get? e = some (PySem.HandSPX.excO C t0) → (∀ o, K.lookup e ≠ some o) →
  (∀ h' dx t1 tk', (∀ b o, b ≠ e → s.heap.get? b = some o → h'.get? b = some o) → s.heap.objs.size ≤ dx → dx ≠ e → h'.get? e = some { cls := .ref C, dict := some dx, data := .fields #[.ref t1, .none, .none, .none, .bool false, .none] } →
      h'.Ns1 dx (fun y => if y = f2 then some u2 else if y = f then some u else none) → R (.ok (.ret .none)) { s with heap := h', toks := tk' }) →
  codeAny (model prog w) A (.call (.ref fI) ⟨[.ref e, u, u2], []⟩) R s
theorem boot_super : bootBuiltins "super" = some (.type "super") := by exact Boot.«super»
def OneP (P : V → Prop) : List V → Prop
  | [v] => P v
  | _ => False
def TwoP (P : V → V → Prop) : List V → Prop
  | [v, w] => P v w
  | _ => False
theorem one_of {vs : List V} {us : List Value} {P : V → Prop} (r : Vals vs us) (q : OneP P vs) : ∃ v u, vs = [v] ∧ us = [u] ∧ RelV v u ∧ P v := by
  cases vs with
  | nil => exact q.elim
  | cons v vs =>
    cases vs with
    | nil =>
      cases r with
      | cons ru rn =>
        cases rn
        exact ⟨_, _, rfl, rfl, ru, q⟩
    | cons _ _ => exact q.elim
theorem two_of {vs : List V} {us : List Value} {P : V → V → Prop} (r : Vals vs us) (q : TwoP P vs) : ∃ v w u u', vs = [v, w] ∧ us = [u, u'] ∧ RelV v u ∧ RelV w u' ∧ P v w := by
  cases vs with
  | nil => exact q.elim
  | cons v vs =>
    cases vs with
    | nil => exact q.elim
    | cons w vs =>
      cases vs with
      | nil =>
        cases r with
        | cons ru rn =>
          cases rn with
          | cons rw rn =>
            cases rn
            exact ⟨_, _, _, _, rfl, rfl, ru, rw, q⟩
      | cons _ _ => exact q.elim
theorem pmk_sup1 (S : SupC X.K C fI cda cc) (hR : Runs1 X.prog X.K C fI f) (iC : findIn X.K (.ref C) "__init__" = some (some (.ref fI))) (tI : typeIn X.K (.ref fI) = some (.type "function")) (hr : Room 1 X.A) (hsup : X.mg "super" = none) (gC : X.mg x = some (.ref C)) (hg : Gl X x) (he : PE X e1 ta)
    (hdb : (x == ("__debug__" : Str)) = false := by decide) (hs : starEach [e1] X.env = (false, eval e1 X.env) :: starEach [] X.env := by rfl) (hpl : (backTo pos (starEach [] X.env)).any (·.1) = false := by rfl) :
    L2N.PMk X (.Call (.Name x p) [e1] [] pos) (fun σ H Q => ta σ H fun v H1 => ∀ d, H1 d = none → Q (.ref C) (some d) (upd H1 d (.xd [(f, v)]))) := by
  intro pins s σ H Q I h
  obtain ⟨nm, q, N, bs, bm, sn, sub, ab, col, dd, k0, k1, k2, k3, k5, hC, hbm⟩ := S.cls
  have ha : PA X [e1] (tCons ta tNil) := pa_cons he pa_nil hs
  refine wpAny_Call_Name_kw (ld_glob I hg gC ?_ hdb)
  refine callWith_K (h₀ := X.base) I.ok.mod.kin S.kC (thn (ha.run pos pins s σ H (fun vs H1 => OneP (fun v => ∀ d, H1 d = none → Q (.ref C) (some d) (upd H1 d (.xd [(f, v)]))) vs) I h) fun us s1 ⟨vs, H1, I1, r1, q1⟩ => ⟨I1.kIn, ?_⟩) hs hpl
  obtain ⟨v, u, rfl, rfl, ru, q1⟩ := one_of r1 q1
  show wpAny _ _ (call (.ref C) [u]) _ _ _
  obtain ⟨hp, g, dr, tk, os⟩ := s1
  have na : hp.get? (hp.objs.size + 1) = none := by
    cases z : hp.get? (hp.objs.size + 1) with
    | none => rfl
    | some o => exact absurd (Heap.lt_size z) (Nat.not_lt.mpr (Nat.le_succ _))
  have hn : H1 (hp.objs.size + 1) = none := I1.hok.fresh (Nat.le_succ _)
  have kk : ∀ b o, hp.get? b = some o → ((hp.push (kdv_tup [u])).push (PySem.HandSPX.excO C hp.objs.size)).get? b = some o := fun b o e => Heap.get?_push_of_some _ (Heap.get?_push_of_some _ e)
  have hget : ((hp.push (kdv_tup [u])).push (PySem.HandSPX.excO C hp.objs.size)).get? (hp.objs.size + 1) = some (PySem.HandSPX.excO C hp.objs.size) := by heap_get
  obtain ⟨mb, hB, hbb⟩ := I1.mod.blt
  refine wpAny_call (PySem.HandSPX.call_own F.excBase_ValueError (fun Y => PySem.HandSPX.refsVE_contains Y bm hbm) (I1.kIn _ _ hC) (looks_findIn I1.kIn iC) (fun self => bind_fn I1.kIn self tI) (by show 1 ≤ sizeLine; rw [sizeLine_eq]; omega)
    (hR X.w _ _ _ _ _ u X.mg mb (I1.kIn.keeps kk) (I1.nolimit.keeps kk) ((I1.mod.glob.keeps I1.bk).keeps kk) hsup ((hB.keeps I1.bk).keeps kk) (by rw [hbb _ (by decide)]; exact boot_super) (hr.make C [u] []).depth hget (fun o z => by rw [I1.kIn _ _ z] at na; cases na) fun h' dx t1 tk' k dn dne ex hn' => ?_))
  have szd : hp.objs.size ≤ dx := Nat.le_trans (by rw [Heap.size_push, Heap.size_push]; omega) dn
  refine ⟨rfl, ?_⟩
  refine mk_done (fs := [(f, v)]) (raises_own S.exC S.tyC) I1 na szd (fun b o z => k b o (fun y => by rw [y, na] at z; cases z) (kk b o z)) ex dne hn' (fun g => ?_) hn (q1 dx (I1.hok.fresh szd))
  exact relO_put (mA := fun _ => none) (fs := []) ru (fun g => True.intro) g
theorem pmk_sup2 (S : SupC X.K C fI cda cc) (hR : Runs2 X.prog X.K C fI f f2) (iC : findIn X.K (.ref C) "__init__" = some (some (.ref fI))) (tI : typeIn X.K (.ref fI) = some (.type "function")) (hr : Room 1 X.A) (hsup : X.mg "super" = none) (gC : X.mg x = some (.ref C)) (hg : Gl X x) (he : PE X e1 ta) (he2 : PE X e2 tb)
    (hdb : (x == ("__debug__" : Str)) = false := by decide) (hs2 : starEach [e2] X.env = (false, eval e2 X.env) :: starEach [] X.env := by rfl) (hs : starEach [e1, e2] X.env = (false, eval e1 X.env) :: starEach [e2] X.env := by rfl) (hpl : (backTo pos (starEach [e2] X.env)).any (·.1) = false := by rfl) :
    L2N.PMk X (.Call (.Name x p) [e1, e2] [] pos) (fun σ H Q => ta σ H fun v H1 => tb σ H1 fun v2 H2 => ∀ d, H2 d = none → Q (.ref C) (some d) (upd H2 d (.xd [(f2, v2), (f, v)]))) := by
  intro pins s σ H Q I h
  obtain ⟨nm, q, N, bs, bm, sn, sub, ab, col, dd, k0, k1, k2, k3, k5, hC, hbm⟩ := S.cls
  have ha : PA X [e1, e2] (tCons ta (tCons tb tNil)) := pa_cons he (pa_cons he2 pa_nil hs2) hs
  refine wpAny_Call_Name_kw (ld_glob I hg gC ?_ hdb)
  refine callWith_K (h₀ := X.base) I.ok.mod.kin S.kC (thn (ha.run pos pins s σ H (fun vs H1 => TwoP (fun v v2 => ∀ d, H1 d = none → Q (.ref C) (some d) (upd H1 d (.xd [(f2, v2), (f, v)]))) vs) I h) fun us s1 ⟨vs, H1, I1, r1, q1⟩ => ⟨I1.kIn, ?_⟩) hs hpl
  obtain ⟨v, v2, u, u2, rfl, rfl, ru, ru2, q1⟩ := two_of r1 q1
  show wpAny _ _ (call (.ref C) [u, u2]) _ _ _
  obtain ⟨hp, g, dr, tk, os⟩ := s1
  have na : hp.get? (hp.objs.size + 1) = none := by
    cases z : hp.get? (hp.objs.size + 1) with
    | none => rfl
    | some o => exact absurd (Heap.lt_size z) (Nat.not_lt.mpr (Nat.le_succ _))
  have hn : H1 (hp.objs.size + 1) = none := I1.hok.fresh (Nat.le_succ _)
  have kk : ∀ b o, hp.get? b = some o → ((hp.push (kdv_tup [u, u2])).push (PySem.HandSPX.excO C hp.objs.size)).get? b = some o := fun b o e => Heap.get?_push_of_some _ (Heap.get?_push_of_some _ e)
  have hget : ((hp.push (kdv_tup [u, u2])).push (PySem.HandSPX.excO C hp.objs.size)).get? (hp.objs.size + 1) = some (PySem.HandSPX.excO C hp.objs.size) := by heap_get
  obtain ⟨mb, hB, hbb⟩ := I1.mod.blt
  refine wpAny_call (PySem.HandSPX.call_own F.excBase_ValueError (fun Y => PySem.HandSPX.refsVE_contains Y bm hbm) (I1.kIn _ _ hC) (looks_findIn I1.kIn iC) (fun self => bind_fn I1.kIn self tI) (by show 2 ≤ sizeLine; rw [sizeLine_eq]; omega)
    (hR X.w _ _ _ _ _ u u2 X.mg mb (I1.kIn.keeps kk) (I1.nolimit.keeps kk) ((I1.mod.glob.keeps I1.bk).keeps kk) hsup ((hB.keeps I1.bk).keeps kk) (by rw [hbb _ (by decide)]; exact boot_super) (hr.make C [u, u2] []).depth hget (fun o z => by rw [I1.kIn _ _ z] at na; cases na) fun h' dx t1 tk' k dn dne ex hn' => ?_))
  have szd : hp.objs.size ≤ dx := Nat.le_trans (by rw [Heap.size_push, Heap.size_push]; omega) dn
  refine ⟨rfl, ?_⟩
  refine mk_done (fs := [(f2, v2), (f, v)]) (raises_own S.exC S.tyC) I1 na szd (fun b o z => k b o (fun y => by rw [y, na] at z; cases z) (kk b o z)) ex dne hn' (fun g => ?_) hn (q1 dx (I1.hok.fresh szd))
  exact relO_put ru2 (fun g => relO_put (mA := fun _ => none) (fs := []) ru (fun g => True.intro) g) g
end
end EXI

set_option Elab.async false
set_option linter.all false
set_option maxRecDepth 100000
set_option maxHeartbeats 4000000
/-! the D-layer with exceptions -/
namespace DL
open PySem L2
/-- an exception: its class by name, its fields, the last one first -/
structure XD where
  c : Str
  fs : List (Str × D)
def XOk (mg : Str → Option Value) (K : PySem.W.Frag) (E : Addr → Prop) (H : Hp) (x : XD) (cls : Value) (d : Option Addr) : Prop :=
  ∃ C : Addr, mg x.c = some (.ref C) ∧ cls = .ref C ∧ ((x.fs = [] ∧ d = none) ∨ ∃ dd fs, d = some dd ∧ ¬ E dd ∧ H dd = some (.xd fs) ∧ fs.map (·.1) = x.fs.map (·.1) ∧ DnA K E H (x.fs.map (·.2)) (fs.map (·.2)))
theorem XOk.less {mg : Str → Option Value} {K : PySem.W.Frag} {E E' : Addr → Prop} {H : Hp} {x : XD} {cls : Value} {d : Option Addr} (k : ∀ b, E' b → E b) (h : XOk mg K E H x cls d) : XOk mg K E' H x cls d := by
  obtain ⟨C, h1, h2, h3⟩ := h
  refine ⟨C, h1, h2, h3.imp id fun ⟨dd, fs, e1, nE, e2, e3, g⟩ => ⟨dd, fs, e1, fun z => nE (k dd z), e2, e3, DnA.less k _ _ g⟩⟩
/-- an expression that may raise; the ends of a suite that may; a suite; a def -/
abbrev RXE := Rho → (D → Prop) → (XD → Prop) → Prop
structure XEnds where
  n : DEnds
  ex : Rho → XD → Prop
abbrev RXS := XEnds → Rho → Prop
abbrev RXF := List Sl → (D → Prop) → (XD → Prop) → Prop
def liftXE (F : Fx) (mg : Str → Option Value) (W : WX) (t : RXE) : TE := fun σ H Q => ∃ E ρ q e, DEnv F E σ H ρ ∧ t ρ q e ∧ (∀ d, q d → ∀ v H', XExt F H H' → Dn F.K E H' d v → Q v H') ∧
  ∀ x, e x → ∀ cls d H', XExt F H H' → XOk mg F.K E H' x cls d → W cls d σ H'
def XServes (F : Fx) (mg : Str → Option Value) (ex : Rho → XD → Prop) (W : WX) : Prop := ∀ ρ x, ex ρ x → ∀ E σ H cls d, DEnv F E σ H ρ → XOk mg F.K E H x cls d → W cls d σ H
def liftXS (F : Fx) (mg : Str → Option Value) (W : WX) (t : RXS) : TS := fun D_ σ H => ∃ E ρ Z, DEnv F E σ H ρ ∧ t Z ρ ∧ Serves F Z.n D_ ∧ XServes F mg Z.ex W
def XED (X : Cx) (W : WX) (e : Expr) (t : RXE) : Prop := ∀ F : Fx, F.K = X.K → PE X e (liftXE F X.mg W t)
def XSD (X : Cx) (W : WX) (s : Stmt) (t : RXS) : Prop := ∀ F : Fx, F.K = X.K → PS X s (liftXS F X.mg W t)
def XSsD (X : Cx) (W : WX) (ss : List Stmt) (t : RXS) : Prop := ∀ F : Fx, F.K = X.K → PSs X ss (liftXS F X.mg W t)
/-! ### defs -/
def spX (mg : Str → Option Value) (K : PySem.W.Frag) (n : Nat) (tf : RXF) : Sp := fun vs H Q E => ∃ (F : Fx) (ss : List Sl) (q : D → Prop) (ex : XD → Prop), F.K = K ∧ F.H0 = H ∧ F.held = [] ∧ (∀ b, F.W b → F.B b) ∧ (∀ b, F.B b → ∃ o, H b = some o) ∧ F.SO H ∧ vs.length = n ∧ ArgsOk F F.B H vs ss ∧
  tf ss q ex ∧ (∀ d, q d → ∀ v H', XExt F H H' → Dn F.K F.B H' d v → Q v H') ∧ ∀ x, ex x → ∀ cls d H', XExt F H H' → XOk mg F.K F.B H' x cls d → E cls d H'
def fnX (n m : Nat) (t : RXS) : RXF := fun ss q ex => ss.length = n ∧ t ⟨⟨fun _ => q .non, q, fun _ => False, fun _ => False⟩, fun _ => ex⟩ (ss.map some ++ List.replicate m none)
theorem fnX_len {n m : Nat} {t : RXS} : ∀ ss q ex, fnX n m t ss q ex → ss.length = n := fun _ _ _ h => h.1
def CalX (P : Program) (w : World) (K : PySem.W.Frag) (mg : Str → Option Value) (base : Heap) (x : Str) (k n : Nat) (tf : RXF) : Prop :=
  ∃ f fd ps, ps.length = n ∧ FnOk P w K mg base (L2N.CX P w) k f fd ps (spX mg K n tf) ∧ mg x = some (.ref f) ∧ PySem.W.keepIn K (.ref f) = true ∧ Binds K fd ps []
theorem CalX.mono {P : Program} {w : World} {K : PySem.W.Frag} {mg : Str → Option Value} {base : Heap} {x : Str} {j k n : Nat} {tf : RXF} (h : CalX P w K mg base x j n tf) (l : j ≤ k) : CalX P w K mg base x k n tf := by
  obtain ⟨f, fd, ps, h1, h2, h3⟩ := h
  exact ⟨f, fd, ps, h1, h2.mono l, h3⟩
abbrev WE (E : XK) : WX := fun cls d _ H => E cls d H
theorem okN {P : Program} {w : World} {K : PySem.W.Frag} {mg : Str → Option Value} {base : Heap} {x qual : Str} {st : Stmt} {f : Addr} {fd : FuncData} {N ps : List Str} {k : Nat} {sp : Sp} (F : Fun K x qual st f fd) (S : FnScope N ps (defScope st)) (len : ∀ vs H Q E, sp vs H Q E → vs.length = ps.length)
    (hb : ∀ (cdv : Value) (A : Around) (outer : List Env) (s : Shared) (H : Hp) (vs : List V) (Q : VK) (E : XK), Room k (A.deeper (PyProof.Rows.envOfC qual (defScope st) s.heap.objs.size f cdv)) → sp vs H Q E →
      ∃ t, PSs (cxOf (L2N.CX P w) P w K mg base N qual (defScope st) f cdv A outer s H E) (defBody st) t ∧ t { nx := fun _ H' => Q .non H', rt := Q } (L2.start N vs) H) : FnOk P w K mg base (L2N.CX P w) (k + 1) f fd ps sp := by
  obtain ⟨oc, od, kV, doc, pm, an, cdv, ct, osl, rfl, lk, hcd⟩ := F.ex
  exact fn_of lk hcd S len fun A outer s H vs Q E hr hsp => hb cdv A outer s H vs Q E hr hsp
theorem fnX_ok {P : Program} {w : World} {K : PySem.W.Frag} {mg : Str → Option Value} {base : Heap} {x qual : Str} {st : Stmt} {f : Addr} {fd : FuncData} {N ps : List Str} {k : Nat} {t : RXS} (Fn : Fun K x qual st f fd) (S : FnScope N ps (defScope st))
    (hb : ∀ (cdv : Value) (A : Around) (outer : List Env) (s : Shared) (H : Hp) (E : XK), Room k (A.deeper (PyProof.Rows.envOfC qual (defScope st) s.heap.objs.size f cdv)) →
      XSsD (cxOf (L2N.CX P w) P w K mg base N qual (defScope st) f cdv A outer s H E) (WE E) (defBody st) t) :
    FnOk P w K mg base (L2N.CX P w) (k + 1) f fd ps (spX mg K ps.length (fnX ps.length (N.length - ps.length) t)) := by
  refine okN Fn S (fun vs H Q E h => ?_) (fun cdv A outer s H vs Q E hr h => ?_)
  · obtain ⟨F, ss, q, ex, _, _, _, _, _, _, hl, _⟩ := h
    exact hl
  · obtain ⟨F, ss, q, ex, hK, hH, hh, hw, hlv, so, hl, ha, ⟨hn, ht⟩, k, kx⟩ := h
    refine ⟨_, hb cdv A outer s H E hr F hK, F.B, _, _, ?_, ht, ⟨fun ρ hq E' σ' H' env => k _ hq _ H' ?_ rfl, fun d hd v H' x1 hv => k d hd v H' (by rw [hH] at x1; exact x1) hv, fun ρ z => z.elim, fun ρ z => z.elim⟩, fun ρ x hx E' σ' H' cls d env xo => kx x hx cls d H' ?_ (xo.less env.sub)⟩
    · have := start_env (N := N) hH hh hw hlv so ha
      rw [hn] at this
      exact this
    · exact ⟨by have := env.fr; rw [hH] at this; exact this, env.so⟩
    · exact ⟨by have := env.fr; rw [hH] at this; exact this, env.so⟩
theorem calX_of {P : Program} {w : World} {K : PySem.W.Frag} {mg : Str → Option Value} {base : Heap} {x nm : Str} {st : Stmt} {ps N : List Str} {k : Nat} {t : RXS} (d : Def1 K mg x st ps nm) (S : FnScope N ps (defScope st))
    (hb : ∀ (f : Addr) (cdv : Value) (A : Around) (outer : List Env) (s : Shared) (H : Hp) (E : XK), Room k (A.deeper (PyProof.Rows.envOfC nm (defScope st) s.heap.objs.size f cdv)) →
      XSsD (cxOf (L2N.CX P w) P w K mg base N nm (defScope st) f cdv A outer s H E) (WE E) (defBody st) t) :
    CalX P w K mg base x (k + 1) ps.length (fnX ps.length (N.length - ps.length) t) := by
  obtain ⟨f, fd, F, hm, b⟩ := d
  exact ⟨f, fd, ps, rfl, fnX_ok F S (hb f), hm, F.kp, b⟩
/-- the wish of such a body is taken -/
theorem takesB {P : Program} {w : World} {K : PySem.W.Frag} {mg : Str → Option Value} {base : Heap} {N : List Str} {qual : Str} {sc : Scope} {f : Addr} {cdv : Value} {A : Around} {outer : List Env} {s : Shared} {H : Hp} {E : XK} :
    L2N.Takes (cxOf (L2N.CX P w) P w K mg base N qual sc f cdv A outer s H E) (WE E) := L2N.takes_of rfl rfl rfl rfl
section
variable {X : Cx} {W : WX} {e a b c o iter tg : Expr} {es : List Expr} {ta tb : RE} {tx ty : RXE} {pos p : Pos} {st : Stmt} {rest : List Stmt} {t u : RXS} {tr : RA}
/-! ### expressions -/
def xpl (ta : RE) : RXE := fun ρ q _ => ta ρ q
theorem xe_of (h : ED X e ta) : XED X W e (xpl ta) := fun F hF => (h F hF).imp fun σ H Q => by
  rintro ⟨E, ρ, q, ex, env, ht, k, kx⟩
  exact ⟨E, ρ, q, env, ht, k⟩
def xif (t : RT) (tx ty : RXE) : RXE := fun ρ q ex => t ρ fun c => if c = true then tx ρ q ex else ty ρ q ex
theorem xe_if {tc : RT} (hc : TD X c tc) (ha : XED X W a tx) (hb : XED X W b ty) : XED X W (.IfExp c a b pos) (xif tc tx ty) := fun F hF => (pe_ifExp (hc F hF) (ha F hF) (hb F hF)).imp fun σ H Q => by
  rintro ⟨E, ρ, q, ex, env, h, k, kx⟩
  refine ⟨E, ρ, _, env, h, fun b hb H1 x1 => ?_⟩
  cases b with
  | true =>
    rw [if_pos rfl] at hb ⊢
    exact ⟨E, ρ, q, ex, env.step x1, hb, fun d hd v H2 x2 hv => k d hd v H2 (x1.trans x2) hv, fun x hx cls d H2 x2 xo => kx x hx cls d H2 (x1.trans x2) xo⟩
  | false =>
    rw [if_neg Bool.false_ne_true] at hb ⊢
    exact ⟨E, ρ, q, ex, env.step x1, hb, fun d hd v H2 x2 hv => k d hd v H2 (x1.trans x2) hv, fun x hx cls d H2 x2 xo => kx x hx cls d H2 (x1.trans x2) xo⟩
/-- a call of a def that may raise -/
def xcallf (tf : RXF) (t : RA) : RXE := fun ρ q ex => t ρ fun ss => tf ss q ex
theorem xe_cal {k n : Nat} {tf : RXF} {x : Str} (G : CalX X.prog X.w X.K X.mg X.base x k n tf) (hn : ∀ ss q ex, tf ss q ex → ss.length = n) (hr : Room k X.A) (tk : L2N.Takes X W) (hg : Gl X x) (ha : AD X (e :: es) tr) (hdb : (x == ("__debug__" : Str)) = false := by decide)
    (he : starEach (e :: es) X.env = (false, eval e X.env) :: starEach es X.env := by rfl) (hpl : (backTo pos (starEach es X.env)).any (·.1) = false := by rfl) : XED X W (.Call (.Name x p) (e :: es) [] pos) (xcallf tf tr) := fun F hF => by
  obtain ⟨f, fd, ps, rfl, h2, hm, hk, hb⟩ := G
  refine (pe_callS h2 hr hg hm hk hb (fun σ => L2N.passAt tk σ) (ha F hF) hdb he hpl).imp fun σ H Q => ?_
  rintro ⟨E, ρ, q, ex, env, h, k, kx⟩
  refine ⟨E, ρ, _, env, h, fun ss hss vs H1 x1 hvs => ?_⟩
  have e1 := env.step x1
  refine ⟨⟨F.K, E, H1, F.src, []⟩, ss, q, ex, hF, rfl, rfl, fun b hb => e1.we hb, e1.live, e1.so, ?_, args_to (F := F) (G := ⟨F.K, E, H1, F.src, []⟩) (E := E) rfl rfl hvs, hss, fun d hd v H' x2 hv => k d hd v H' (x1.trans x2) hv, fun x hx cls d H' x2 xo => kx x hx cls d H' (x1.trans x2) xo⟩
  rw [hvs.len]
  exact hn _ _ _ hss
/-! ### statements -/
def xpn (t : RS) : RXS := fun Z ρ => t Z.n ρ
theorem xs_of {t : RS} (h : SD X st t) : XSD X W st (xpn t) := fun F hF => (h F hF).imp fun D_ σ H => by
  rintro ⟨E, ρ, Z, env, ht, sv, sx⟩
  exact ⟨E, ρ, Z.n, env, ht, sv⟩
theorem xss_of {ss : List Stmt} {t : RS} (h : SsD X ss t) : XSsD X W ss (xpn t) := fun F hF => (h F hF).imp fun D_ σ H => by
  rintro ⟨E, ρ, Z, env, ht, sv, sx⟩
  exact ⟨E, ρ, Z.n, env, ht, sv⟩
def xnext : RXS := fun Z ρ => Z.n.nx ρ
theorem xs_nil : XSsD X W [] xnext := fun F hF => pss_nil.imp fun D_ σ H => by
  rintro ⟨E, ρ, Z, env, h, sv, sx⟩
  exact sv.nx _ h E σ H env
def xseq (t u : RXS) : RXS := fun Z ρ => t ⟨{ Z.n with nx := u Z }, Z.ex⟩ ρ
theorem xs_cons (h1 : XSD X W st t) (h2 : XSsD X W rest u) : XSsD X W (st :: rest) (xseq t u) := fun F hF => (pss_cons (h1 F hF) (h2 F hF)).imp fun D_ σ H => by
  rintro ⟨E, ρ, Z, env, h, sv, sx⟩
  exact ⟨E, ρ, _, env, h, ⟨fun ρ' h' E' σ' H' env' => ⟨E', ρ', Z, env', h', sv, sx⟩, sv.rt, sv.bk, sv.ct⟩, sx⟩
theorem xs_one (h1 : XSD X W st t) : XSsD X W [st] t := fun F hF => pss_one (h1 F hF)
def xsif (c : RT) (t u : RXS) : RXS := fun Z ρ => c ρ fun b => if b = true then t Z ρ else u Z ρ
theorem xs_if {tc : RT} {sa sb : List Stmt} (hc : TD X c tc) (ha : XSsD X W sa t) (hb : XSsD X W sb u) : XSD X W (.If c sa sb pos) (xsif tc t u) := fun F hF => (ps_if (hc F hF) (ha F hF) (hb F hF)).imp fun D_ σ H => by
  rintro ⟨E, ρ, Z, env, h, sv, sx⟩
  refine ⟨E, ρ, _, env, h, fun b hb H1 x1 => ?_⟩
  cases b with
  | true =>
    rw [if_pos rfl] at hb ⊢
    exact ⟨E, ρ, Z, env.step x1, hb, sv, sx⟩
  | false =>
    rw [if_neg Bool.false_ne_true] at hb ⊢
    exact ⟨E, ρ, Z, env.step x1, hb, sv, sx⟩
def xexpr (tx : RXE) : RXS := fun Z ρ => tx ρ (fun _ => Z.n.nx ρ) (Z.ex ρ)
theorem xs_expr (he : XED X W e tx) (hs : swapsWith e none pos.line X.env = pure false := by rfl) : XSD X W (.Expr e pos) (xexpr tx) := fun F hF => (ps_expr (he F hF) hs).imp fun D_ σ H => by
  rintro ⟨E, ρ, Z, env, h, sv, sx⟩
  exact ⟨E, ρ, _, _, env, h, fun d hd v H1 x1 hv => sv.nx _ hd E σ H1 (env.step x1), fun x hx cls d H1 x1 xo => sx ρ x hx E σ H1 cls d (env.step x1) xo⟩
def xret (tx : RXE) : RXS := fun Z ρ => tx ρ Z.n.rt (Z.ex ρ)
theorem xs_ret (he : XED X W e tx) : XSD X W (.Return (some e) pos) (xret tx) := fun F hF => (ps_ret (he F hF)).imp fun D_ σ H => by
  rintro ⟨E, ρ, Z, env, h, sv, sx⟩
  exact ⟨E, ρ, _, _, env, h, fun d hd v H1 x1 hv => sv.rt d hd v H1 ⟨env.fr.trans x1.1, x1.2⟩ (Dn.less env.sub _ _ hv), fun x hx cls d H1 x1 xo => sx ρ x hx E σ H1 cls d (env.step x1) xo⟩
def xset (i : Nat) (tx : RXE) : RXS := fun Z ρ => tx ρ (fun d => Z.n.nx (ρ.set i (some (.im d)))) (Z.ex ρ)
theorem xs_set {i : Nat} {x : Str} {pos' : Pos} (hN : X.N.Nodup) (hi : X.N[i]? = some x) (hx : Loc X.env.scope x) (he : XED X W e tx) (hs : swapsWith e (some (.Name x pos')) pos.line X.env = pure false := by rfl) (hf : X.fn x = true ∨ X.env.scope.names.lookup x = some .local := by first | exact .inl rfl | exact .inr rfl | assumption) :
    XSD X W (.Assign [.Name x pos'] e pos) (xset i tx) := fun F hF => (ps_set hN hi hx (he F hF) hs hf).imp fun D_ σ H => by
  rintro ⟨E, ρ, Z, env, h, sv, sx⟩
  exact ⟨E, ρ, _, _, env, h, fun d hd v H1 x1 hv => sv.nx _ hd E _ H1 ((env.step x1).set hv), fun x hx cls d H1 x1 xo => sx ρ x hx E σ H1 cls d (env.step x1) xo⟩
/-- xs.append(e), xs the def's own -/
def xapp (i : Nat) (tx : RXE) : RXS := fun Z ρ => match ρ[i]? with
  | some (some (.ml ds)) => tx ρ (fun d => ds.length < sizeLine ∧ Z.n.nx (ρ.set i (some (.ml (ds ++ [d]))))) (Z.ex ρ)
  | _ => False
theorem xs_app {i : Nat} {o : Expr} {apos cpos : Pos} (ho : PE X o (tVar i)) (he : XED X W e tx)
    (hbase : attributeBase o "append" X.env (eval o X.env) = eval o X.env := by rfl)
    (hfew : ((backTo cpos (starEach (e :: []) X.env)).all (fun x => !x.1) && (backToKw cpos (keywordEach [] X.env)).all (fun x => x.1.isSome)
      && decide ((e :: []).length + ([] : List Keyword).length + (if ([] : List Keyword).isEmpty then 0 else 1) < 30)) = true := by rfl)
    (hline : (apos.endLine == cpos.line) = true := by rfl) (hs : starEach (e :: []) X.env = (false, eval e X.env) :: starEach [] X.env := by rfl) (hplain : (backTo cpos (starEach [] X.env)).any (·.1) = false := by rfl)
    (hsw : swapsWith (.Call (.Attribute o "append" apos) [e] [] cpos) none pos.line X.env = pure false := by rfl) :
    XSD X W (.Expr (.Call (.Attribute o "append" apos) [e] [] cpos) pos) (xapp i tx) := fun F hF =>
  (ps_expr (pe_bm PySem.F.plainAttrs_list PySem.F.slot_list_append PySem.F.type_list_append mt_append ho (pa_cons (he F hF) pa_nil hs) hbase hfew hline hs hplain) hsw).imp fun D_ σ H => by
  rintro ⟨E, ρ, Z, env, h, sv, sx⟩
  unfold xapp at h
  split at h
  · rename_i ds hi
    obtain ⟨v, hv, p, xs, ev, hE, hB, h0, hp, ha⟩ := env.sl i _ hi
    subst ev
    refine ⟨_, hv, .inl ⟨rfl, xs, SqL.of hp⟩, ?_⟩
    refine ⟨E, ρ, _, _, env, h, fun d hd v H1 x1 hv1 => ?_, fun x hx cls d H1 x1 xo => sx ρ x hx E σ H1 cls d (env.step x1) xo⟩
    have e1 := env.step x1
    have nW : ¬ F.W p := fun w => hB (env.wb p w)
    have hp1 := x1.1 p _ hp nW
    have ha1 := env.dna x1 ha
    exact ⟨p, xs, v, rfl, rfl, hp1, by rw [ha1.len]; exact hd.1, sv.nx _ hd.2 E σ _ (e1.write hi hv (ha1.app (DnA.one hv1)))⟩
  · exact h.elim
/-! ### raise -/
def xraise0 (x : Str) : RXS := fun Z ρ => Z.ex ρ ⟨x, []⟩
def xraise1 (x f : Str) (ta : RE) : RXS := fun Z ρ => ta ρ fun d => Z.ex ρ ⟨x, [(f, d)]⟩
def xraise2 (x f f2 : Str) (ta tb : RE) : RXS := fun Z ρ => ta ρ fun d => tb ρ fun d2 => Z.ex ρ ⟨x, [(f2, d2), (f, d)]⟩
/-- a class without own __init__ that may be made and raised -/
def Ex0 (K : PySem.W.Frag) (mg : Str → Option Value) (x : Str) : Prop := ∃ C, mg x = some (.ref C) ∧ PySem.W.excIn K C [.type "ValueError", .type "Exception", .type "BaseException", .type "object"] "ValueError.__new__" = true ∧ PySem.W.keepIn K (.ref C) = true ∧
  PySem.W.subIn K (.ref C) (.type "BaseException") = some true ∧ PySem.W.typeIn K (.ref C) = some (.type "type")
theorem xs_raise0 {x : Str} {pos' : Pos} (hc : X.calm = true) (tk : L2N.Takes X W) (G : Ex0 X.K X.mg x) (hg : Gl X x) (hdb : (x == ("__debug__" : Str)) = false := by decide) : XSD X W (.Raise (some (.Call (.Name x p) [] [] pos')) none pos) (xraise0 x) := fun F hF => by
  obtain ⟨C, gC, q, kC, h1, h2⟩ := G
  refine (L2N.ps_raise hc tk (EXI.pmk_own0 PySem.F.excBase_ValueError q gC kC (raises_own h1 h2) hg hdb)).imp fun D_ σ H => ?_
  rintro ⟨E, ρ, Z, env, h, sv, sx⟩
  exact sx ρ _ h E σ H _ _ env ⟨C, gC, rfl, .inl ⟨rfl, rfl⟩⟩
/-- a class with one field -/
def Ex1 (P : Program) (K : PySem.W.Frag) (mg : Str → Option Value) (x f : Str) : Prop := ∃ C fI cda cc, mg x = some (.ref C) ∧ EXI.SupC K C fI cda cc ∧ EXI.Runs1 P K C fI f ∧ PySem.W.findIn K (.ref C) "__init__" = some (some (.ref fI)) ∧ PySem.W.typeIn K (.ref fI) = some (.type "function") ∧ mg "super" = none
def Ex2 (P : Program) (K : PySem.W.Frag) (mg : Str → Option Value) (x f f2 : Str) : Prop := ∃ C fI cda cc, mg x = some (.ref C) ∧ EXI.SupC K C fI cda cc ∧ EXI.Runs2 P K C fI f f2 ∧ PySem.W.findIn K (.ref C) "__init__" = some (some (.ref fI)) ∧ PySem.W.typeIn K (.ref fI) = some (.type "function") ∧ mg "super" = none
theorem xs_raise1 {x f : Str} {pos' : Pos} (hc : X.calm = true) (tk : L2N.Takes X W) (G : Ex1 X.prog X.K X.mg x f) (hr : Room 1 X.A) (hg : Gl X x) (he : ED X e ta) (hdb : (x == ("__debug__" : Str)) = false := by decide)
    (hs : starEach [e] X.env = (false, eval e X.env) :: starEach [] X.env := by rfl) (hpl : (backTo pos' (starEach [] X.env)).any (·.1) = false := by rfl) : XSD X W (.Raise (some (.Call (.Name x p) [e] [] pos')) none pos) (xraise1 x f ta) := fun F hF => by
  obtain ⟨C, fI, cda, cc, gC, S, R, iC, tI, hsup⟩ := G
  refine (L2N.ps_raise hc tk (EXI.pmk_sup1 S R iC tI hr hsup gC hg (he F hF) hdb hs hpl)).imp fun D_ σ H => ?_
  rintro ⟨E, ρ, Z, env, h, sv, sx⟩
  refine ⟨E, ρ, _, env, h, fun d hd v H1 x1 hv dd hdd => ?_⟩
  have e1 := env.step x1
  have x2 := XExt.new (o := .xd [(f, v)]) e1.so hdd
  exact sx ρ _ hd E σ _ _ _ (e1.step x2) ⟨C, gC, rfl, .inr ⟨dd, [(f, v)], rfl, e1.nE hdd, upd_same, rfl, DnA.one (e1.dn x2 hv)⟩⟩
theorem xs_raise2 {x f f2 : Str} {e2 : Expr} {pos' : Pos} (hc : X.calm = true) (tk : L2N.Takes X W) (G : Ex2 X.prog X.K X.mg x f f2) (hr : Room 1 X.A) (hg : Gl X x) (he : ED X e ta) (he2 : ED X e2 tb) (hdb : (x == ("__debug__" : Str)) = false := by decide)
    (hs2 : starEach [e2] X.env = (false, eval e2 X.env) :: starEach [] X.env := by rfl) (hs : starEach [e, e2] X.env = (false, eval e X.env) :: starEach [e2] X.env := by rfl) (hpl : (backTo pos' (starEach [e2] X.env)).any (·.1) = false := by rfl) : XSD X W (.Raise (some (.Call (.Name x p) [e, e2] [] pos')) none pos) (xraise2 x f f2 ta tb) := fun F hF => by
  obtain ⟨C, fI, cda, cc, gC, S, R, iC, tI, hsup⟩ := G
  refine (L2N.ps_raise hc tk (EXI.pmk_sup2 S R iC tI hr hsup gC hg (he F hF) (he2 F hF) hdb hs2 hs hpl)).imp fun D_ σ H => ?_
  rintro ⟨E, ρ, Z, env, h, sv, sx⟩
  refine ⟨E, ρ, _, env, h, fun d hd v H1 x1 hv => ?_⟩
  have e1 := env.step x1
  refine ⟨E, ρ, _, e1, hd, fun d2 hd2 v2 H2 x2 hv2 dd hdd => ?_⟩
  have e2 := e1.step x2
  have x3 := XExt.new (o := .xd [(f2, v2), (f, v)]) e2.so hdd
  exact sx ρ _ hd2 E σ _ _ _ (e2.step x3) ⟨C, gC, rfl, .inr ⟨dd, [(f2, v2), (f, v)], rfl, e2.nE hdd, upd_same, rfl, ⟨_, _, rfl, e2.dn x3 hv2, DnA.one (e2.dn x3 (e1.dn x2 hv))⟩⟩⟩
end
end DL

set_option Elab.async false
set_option linter.all false
set_option maxRecDepth 100000
set_option maxHeartbeats 4000000
/-! try with several clauses, each 'as n'; loops that may raise -/
namespace DL
open PySem PySem.Spec PyProof.Rows L2
abbrev TC := Addr → Value → Option Addr → TS
/-- the ends of a clause's suite: the name is gone behind it -/
def gone (i : Nat) (D : Ends) : Ends := { nx := fun σ H => D.nx (σ.set i none) H, rt := D.rt, bk := fun σ H => D.bk (σ.set i none) H, ct := fun σ H => D.ct (σ.set i none) H }
/-- what the clauses wish of an exception -/
def wClauses (K : PySem.W.Frag) (i : Nat) (Wo : WX) (D : Ends) : List (Value × TC) → WX
  | [] => Wo
  | p :: r => fun cls d σ H => ∃ b, PySem.W.exmOne K cls p.1 = some b ∧ (b = true → ∀ a, H a = none → p.2 a cls d (gone i D) (σ.set i (some (.ref a))) H) ∧ (b = false → wClauses K i Wo D r cls d σ H)
def SuiteOk (X : Cx) (ss : List Stmt) (ts : TC) : Prop := ∀ (a : Addr) (oe : Obj) (cls : Value) (d : Option Addr) (pn : List (Addr × Obj)), L2N.Zn cls d oe → (∃ vs, oe.data = .fields vs) → PSs (X.suite a ((a, oe) :: pn)) ss (ts a cls d)
inductive Clauses (X : Cx) (n : Str) : List ExceptHandler → List (Value × TC) → Prop
  | nil : Clauses X n [] []
  | cons {x : Str} {c : Value} {ts : TC} {s0 : Stmt} {ss : List Stmt} {p1 p2 : Pos} {hs : List ExceptHandler} {l : List (Value × TC)} (hc : Names X x c) (h : SuiteOk X (s0 :: ss) ts) (r : Clauses X n hs l) :
      Clauses X n (.ExceptHandler (some (.Name x p1)) (some n) (s0 :: ss) p2 :: hs) ((c, ts) :: l)
section
variable {X : Cx} {n : Str} {i : Nat} {body : List Stmt} {h0 : ExceptHandler} {hs : List ExceptHandler} {l : List (Value × TC)} {pos : Pos} {tb : WX → TS} {Wo : WX}
/-- the clauses run over an exception that was noted and set on the ground -/
theorem clauses_run (st : X.stack = X.env :: X.outer) (hf : X.env.frame = some X.env.locals) (hN : X.N.Nodup) (hi : X.N[i]? = some n) (hl : X.env.kindOf n = some .local) (tk : L2N.Takes X Wo) {pins : List (Addr × Obj)} {σ : L2.St} {H : Hp} {D : Ends} {a : Addr} {cls : Value} {d : Option Addr} {B : Heap} {sI s' : Shared} {h3 : Heap}
    (J : Inv X pins σ H sI) (nb : ∀ b o, sI.heap.get? b = some o → b ∉ frs X.stack → B.get? b = some o) (fl : HandSPX.FlyingZ B (X.env :: X.outer) a (L2N.Zn cls d) h3) (up : sI.heap.UpToSlots h3) (na : H a = none) (os : s'.os = sI.os) (ag : AllBare s'.gens)
    (hc : Clauses X n hs l) : wClauses X.K i Wo D l cls d σ H → wpAny (model X.prog X.w) X.A (handleBy (.ref a) X.env hs) (SP X pins D) X.xe { s' with heap := h3 } := by
  have ok := J.ok
  have J3 : Inv X pins σ H { s' with heap := h3 } := J.landed nb fl.1 up os ag
  obtain ⟨oe, vs, he, hz, hd⟩ := fl.there
  have nfr : a ∉ frs (X.env :: X.outer) := fun hm => by
    obtain ⟨_, o', e', hn⟩ := fl.2.2.1.mem hm
    rw [he] at e'; cases e'
    exact hn vs hd
  have nL : a ≠ X.env.locals := fun z => nfr (List.mem_filterMap.mpr ⟨X.env, List.mem_cons_self, by rw [hf, z]⟩)
  have nF : a ∉ X.fs := fun hm => by
    obtain ⟨e, he', q⟩ := List.mem_filterMap.mp hm
    exact nfr (List.mem_filterMap.mpr ⟨e, List.mem_cons_of_mem _ he', q⟩)
  have S3 := J3.suite he hd na nL nF
  induction hc with
  | nil =>
    intro w
    refine wpAny_handleBy_nil ?_
    obtain ⟨_, _, _, oe', vs', T, oT, ts', he', _, hd', h1, _⟩ := id fl
    unfold PySem.passOn
    refine wpAny_bind (wpAny_field he' hd' h1 ?_)
    rw [if_neg (show ¬ ((Value.ref T == Value.none) = true) by simp)]
    have last : wpAny (model X.prog X.w) X.A (setFlight (.ref a) X.env.frame) (fun _ s4 => wpAny (model X.prog X.w) X.A (throw (.ref a) : Sem Flow) (SP X pins D) X.xe s4) X.xe { s' with heap := h3 } := by
      rw [hf]
      exact HandSPX.setFlight_upZ fl fun h4 hh up4 => wpAny_throw (tk _ _ ⟨a, B, sI, pins, σ, H, cls, d, rfl, J, nb, up.trans up4, .inr (.inr (by rw [st]; exact hh)), na, os, ag, w⟩)
    first
      | exact wpAny_bind last
      | exact wpAny_bind (wpAny_pure (wpAny_bind last))
  | @cons x c ts s0 ss p1 p2 hs' l' hcl hsu r ih =>
    rintro ⟨b, hb, yes, no⟩
    refine wpAny_handleBy_cons (codeAny_handlers_test ?_) (by intro q; cases q)
    have isC : PySem.W.Looks (model X.prog X.w) h3 (typeOf (.ref a)) cls := fun A Q E s k q => wpAny_typeOf_ref (k _ _ he) (by rw [hz.1]; exact q)
    have mt := PySem.W.exm_one (M := model X.prog X.w) J3.kIn isC hb
    have named : ∀ {Q : Value → Shared → Prop} {E : Value → Shared → Prop}, Q c { s' with heap := h3 } → wpAny (model X.prog X.w) (X.A.mark (some (.ref a))) (eval (.Name x p1) X.env) Q E { s' with heap := h3 } := fun q => by
      obtain ⟨g1, g2, g3 | ⟨g3, g4, g5⟩⟩ := hcl
      · exact ld_glob (X := X.suite a ((a, oe) :: (X.pn ++ pins))) S3 g1 g3 q g2
      · exact ld_blt (X := X.suite a ((a, oe) :: (X.pn ++ pins))) S3 g1 g3 g4 q g5 g2
    refine named (mt.here ?_)
    cases b with
    | false => exact ih (no rfl)
    | true =>
      refine codeAny_handlers_suite_as (HandSPX.lands_againZ fl fun h4 fl4 up4 => ?_)
      have J4 : Inv X pins σ H { s' with heap := h4 } := J.landed nb fl4.1 (up.trans up4) os ag
      obtain ⟨oe4, vs4, he4, hz4, hd4⟩ := fl4.there
      refine store_ok (X := X.suite a ((a, oe4) :: (X.pn ++ pins))) (v := .ref a) (J4.suite he4 hd4 na nL nF) hN hi (.inl hl) rfl (fun s5 S5 => ?_) (.inr hl)
      refine wpAny_mono ((hsu a oe4 cls d (X.pn ++ pins) hz4 ⟨_, hd4⟩).run [] s5 _ H _ S5 (yes rfl a na)) (fun f s6 hsp => ?_) fun _ _ z => z.elim
      have fin : ∀ {σ6 : L2.St} {H6 : Hp} {Q : Shared → Prop}, Inv (X.suite a ((a, oe4) :: (X.pn ++ pins))) [] σ6 H6 s6 → (∀ s7, Inv X pins (σ6.set i none) H6 s7 → Q s7) →
          wpAny (model X.prog X.w) X.A (do bindName X.env n .none; unbindBehindTheSuite X.env n p2) (fun _ s7 => Q s7) X.xe s6 := fun S6 hq => gone_ok (S6.unsuite ok) hN hi hl hq
      cases f with
      | ret u =>
        obtain ⟨v6, σ6, H6, S6, r6, q6⟩ := hsp
        exact fin S6 fun s7 J7 => ⟨_, _, _, J7, r6, q6⟩
      | next =>
        obtain ⟨σ6, H6, S6, q6⟩ := hsp
        exact fin S6 fun s7 J7 => ⟨_, _, J7, q6⟩
      | brk =>
        obtain ⟨σ6, H6, S6, q6⟩ := hsp
        exact fin S6 fun s7 J7 => ⟨_, _, J7, q6⟩
      | cont =>
        obtain ⟨σ6, H6, S6, q6⟩ := hsp
        exact fin S6 fun s7 J7 => ⟨_, _, J7, q6⟩
theorem ps_tryC (st : X.stack = X.env :: X.outer) (hf : X.env.frame = some X.env.locals) (hN : X.N.Nodup) (hi : X.N[i]? = some n) (hl : X.env.kindOf n = some .local) (tk : L2N.Takes X Wo)
    (hb : ∀ (W : WX) (pn : List (Addr × Obj)) (xe : Value → Shared → Prop), L2N.Takes (X.tr pn xe) W → PassesOwn (model X.prog X.w) X.A X.env xe → PSs (X.tr pn xe) body (tb W))
    (hc : Clauses X n (h0 :: hs) l) : PS X (.Try body (h0 :: hs) [] [] pos) (fun D σ H => tb (wClauses X.K i Wo D l) D σ H) := by
  refine ⟨fun pins s σ H D I h => ?_⟩
  have ok := I.ok
  refine wpAny_Try_except (wpAny_mono ((hb (wClauses X.K i Wo D l) (X.pn ++ pins) (fun e s1 => wpAny (model X.prog X.w) X.A (noteFrame e X.env) (fun _ s2 => wpAny (model X.prog X.w) X.A (setFlight e none) (fun _ s3 =>
    wpAny (model X.prog X.w) X.A (handleBy e X.env (h0 :: hs)) (SP X pins D) X.xe s3) X.xe s2) X.xe s1) (fun u s' xx => ?_) PassesOwn.looking).run [] s σ H D (I.toTry _) h) (fun f s1 hsp => ?_) fun _ _ z => z)
  · obtain ⟨a, B, sI, pins', σ', H', cls, d, rfl, J', nb, up, sky, na, os, ag, w⟩ := xx
    have J : Inv X pins σ' H' sI := J'.ofTry ok
    have sky' : Sky B (X.env :: X.outer) a (L2N.Zn cls d) X.env.locals s'.heap := by rw [← st]; exact sky
    exact L2N.Sky.land L2N.Zn.steady (by rw [ok.frames, st]) hf sky' fun h3 fl up3 => clauses_run st hf hN hi hl tk J nb fl (up.trans up3) na os ag hc w
  · cases f with
    | ret u =>
      obtain ⟨v, σ', H', J', r, q⟩ := hsp
      exact ⟨v, σ', H', J'.ofTry ok, r, q⟩
    | next =>
      obtain ⟨σ', H', J', q⟩ := hsp
      exact wpAny_execs_nil ⟨σ', H', J'.ofTry ok, q⟩
    | brk =>
      obtain ⟨σ', H', J', q⟩ := hsp
      exact ⟨σ', H', J'.ofTry ok, q⟩
    | cont =>
      obtain ⟨σ', H', J', q⟩ := hsp
      exact ⟨σ', H', J'.ofTry ok, q⟩
end
/-! ### loops -/
def xfordo (T : Tg) (tb : RXS) (Z : XEnds) : List D → Rho → Prop
  | [], ρ => Z.n.nx ρ
  | d :: ds, ρ => match T.put d ρ with
    | some ρ' => tb ⟨{ Z.n with nx := xfordo T tb Z ds, ct := xfordo T tb Z ds, bk := Z.n.nx }, Z.ex⟩ ρ'
    | none => False
def xfor (w : RL) (T : Tg) (tb : RXS) : RXS := fun Z ρ => w ρ fun ds => xfordo T tb Z ds ρ
theorem xs_for {X : Cx} {W : WX} {tg iter : Expr} {tl : RL} {T : Tg} {tb : RXS} {body : List Stmt} {pos : Pos} (hp : PassesOwn (model X.prog X.w) X.A X.env X.xe) (hc : X.calm = true) (hi : ID X tg iter tl) (hg : GD X tg T) (hb : XSsD X W body tb)
    (hs : ∀ x, foldedSetIterable iter X.env x = pure x := by intro _; rfl) : XSD X W (.For tg iter body [] pos) (xfor tl T tb) := fun F hF => by
  have hb' : PSs X body (fun D_ σ H => ∃ v d, liftXS (F.hold v d) X.mg W tb D_ σ H) := ⟨fun pins s σ H D_ I ⟨v, d, q⟩ => (hb (F.hold v d) hF).run pins s σ H D_ I q⟩
  refine (ps_for hp hc (hi F hF) hg hb' hs).imp fun D_ σ H => ?_
  rintro ⟨E, ρ, Z, env, h, sv, sx⟩
  refine ⟨E, ρ, _, env, h, fun ds hds J H1 hv hd x1 hdn wk => ?_⟩
  have Wk := wk (F.hold hv hd) rfl rfl
  refine ⟨fun i m σ H => m = ds.length - i ∧ i ≤ ds.length ∧ ∃ E ρ, DEnv (F.hold hv hd) E σ H ρ ∧ xfordo T tb Z (ds.drop i) ρ, ⟨ds.length, rfl, Nat.zero_le _, E, ρ, (env.step x1).hold hdn, hds⟩, ?_⟩
  rintro i m σ H ⟨rfl, hi, E, ρ, env, hr⟩
  obtain ⟨w1, w2⟩ := Wk E H env.at_ env.heldAt
  by_cases hlt : i < ds.length
  · have hget : ds[i]? = some ds[i] := List.getElem?_eq_getElem hlt
    rw [List.drop_eq_getElem_cons hlt] at hr
    obtain ⟨hgo, hy⟩ := w1 i _ hget
    unfold xfordo at hr
    split at hr
    · rename_i ρ' hput
      refine .inr ⟨hgo, fun σ' H' => ∃ E ρ, DEnv (F.hold hv hd) E σ' H' ρ ∧ xfordo T tb Z (ds.drop (i + 1)) ρ, fun σ' H' q => ⟨_, Nat.sub_lt_sub_left hlt (Nat.lt_succ_self i), rfl, hlt, q⟩, fun x H' hx => ?_⟩
      obtain ⟨sm, dx⟩ := hy x H' hx
      have e2 := env.step (XExt.same env.so sm)
      rw [← hF]
      refine Tg.sem (F := F.hold hv hd) T e2 dx hput fun σ2 e3 _ => ?_
      exact ⟨hv, hd, E, ρ', _, e3, hr, ⟨fun ρ2 h2 E2 σ2 H2 env2 => ⟨E2, ρ2, env2, h2⟩, fun d hd' v H2 x2 dv => sv.rt d hd' v H2 x2 dv, fun ρ2 h2 E2 σ2 H2 env2 => sv.nx ρ2 h2 E2 σ2 H2 env2.drop, fun ρ2 h2 E2 σ2 H2 env2 => ⟨E2, ρ2, env2, h2⟩⟩, fun ρ2 x hx E2 σ2 H2 cls d env2 xo => sx ρ2 x hx E2 σ2 H2 cls d env2.drop xo⟩
    · exact hr.elim
  · have hil : i = ds.length := by omega
    rw [hil, List.drop_length] at hr
    exact .inl ⟨w2 i (by omega), sv.nx _ hr E σ H env.drop⟩
end DL

set_option Elab.async false
set_option linter.all false
set_option maxRecDepth 100000
set_option maxHeartbeats 4000000
/-! suites of clauses: the exception that was caught -/
namespace DL
open PySem PySem.Spec PyProof.Rows L2
/-- c is y's class or below it: one base for all, its name b -/
def isub (c y : Str) : Bool := c == y || y == ("StandError" : Str)
/-- what the written part says of exception classes by name -/
structure XcC (K : PySem.W.Frag) (D : Addr) : Prop where
  hcl : (PySem.W.clsIn K D).isSome = true
  hga : PySem.W.findIn K (.ref D) "__getattribute__" = some (some (.builtin "BaseException.__getattribute__"))
  hgt : PySem.W.findIn K (.ref D) "__getattr__" = some none
  hsub : PySem.W.subIn K (.ref D) (.type "BaseException") = some true
  ha : PySem.W.findIn K (.ref D) "__class__" = some (some (.builtin "object.__class__"))
  hn : PySem.W.specialIn K (.builtin "object.__class__") "__get__" = some (some (.builtin "getset_descriptor.__get__"))
  ht : PySem.W.takesIn K (.builtin "object.__class__") = some true
  hm : PySem.W.mroIn K D (.type "object") = some true
  hd : PySem.W.hasDictIn K D = true
def ExTab (K : PySem.W.Frag) (mg : Str → Option Value) (N Y : List Str) : Prop := ∀ c ∈ N, ∃ D, mg c = some (.ref D) ∧ XcC K D ∧ ∀ y ∈ Y, ∃ C, mg y = some (.ref C) ∧ PySem.W.kitOne K (.ref D) (.ref C) = some (isub c y) ∧ PySem.W.exmOne K (.ref D) (.ref C) = some (isub c y)
/-- the exception stands in slot i, and is x -/
def XAt (mg : Str → Option Value) (K : PySem.W.Frag) (i : Nat) (a : Addr) (cls : Value) (d : Option Addr) (E : Addr → Prop) (σ : L2.St) (H : Hp) (x : XD) : Prop := σ[i]? = some (some (.ref a)) ∧ XOk mg K E H x cls d
theorem XOk.ext {mg : Str → Option Value} {K : PySem.W.Frag} {E : Addr → Prop} {H H' : Hp} {x : XD} {cls : Value} {d : Option Addr} (k : FExt E H H') (h : XOk mg K E H x cls d) : XOk mg K E H' x cls d := by
  obtain ⟨C, h1, h2, h3⟩ := h
  exact ⟨C, h1, h2, h3.imp id fun ⟨dd, fs, e1, nE, e2, e3, g⟩ => ⟨dd, fs, e1, nE, k dd _ e2 nE, e3, DnA.ext k _ _ g⟩⟩
theorem XOk.more {mg : Str → Option Value} {K : PySem.W.Frag} {E E' : Addr → Prop} {H : Hp} {x : XD} {cls : Value} {d : Option Addr} (k : ∀ b, E' b → E b ∨ H b = none) (h : XOk mg K E H x cls d) : XOk mg K E' H x cls d := by
  obtain ⟨C, h1, h2, h3⟩ := h
  refine ⟨C, h1, h2, h3.imp id fun ⟨dd, fs, e1, nE, e2, e3, g⟩ => ⟨dd, fs, e1, fun z => (k dd z).elim nE (fun w => by rw [w] at e2; cases e2), e2, e3, DnA.more k _ _ g⟩⟩
theorem XAt.ext {mg : Str → Option Value} {K : PySem.W.Frag} {i : Nat} {a : Addr} {cls : Value} {d : Option Addr} {E : Addr → Prop} {σ : L2.St} {H H' : Hp} {x : XD} (k : FExt E H H') (h : XAt mg K i a cls d E σ H x) : XAt mg K i a cls d E σ H' x := ⟨h.1, h.2.ext k⟩
theorem XAt.set {mg : Str → Option Value} {K : PySem.W.Frag} {i j : Nat} {a : Addr} {cls : Value} {d : Option Addr} {E : Addr → Prop} {σ : L2.St} {H : Hp} {x : XD} {v : Option V} (hj : j ≠ i) (h : XAt mg K i a cls d E σ H x) : XAt mg K i a cls d E (σ.set j v) H x := ⟨by rw [List.getElem?_set_ne hj]; exact h.1, h.2⟩
abbrev ZE := XD → RE
abbrev ZL := XD → RL
abbrev ZT := XD → RT
abbrev ZS := XD → RS
section
variable (i : Nat) (a : Addr) (cls : Value) (d : Option Addr)
def liftZE (F : Fx) (mg : Str → Option Value) (t : ZE) : TE := fun σ H Q => ∃ E ρ q x, DEnv F E σ H ρ ∧ XAt mg F.K i a cls d E σ H x ∧ t x ρ q ∧ ∀ e, q e → ∀ v H', XExt F H H' → Dn F.K E H' e v → Q v H'
def liftZL (F : Fx) (mg : Str → Option Value) (t : ZL) : TA := fun σ H Q => ∃ E ρ q x, DEnv F E σ H ρ ∧ XAt mg F.K i a cls d E σ H x ∧ t x ρ q ∧ ∀ es, q es → ∀ vs H', XExt F H H' → DnA F.K E H' es vs → Q vs H'
def liftZT (F : Fx) (mg : Str → Option Value) (t : ZT) : TT := fun σ H Q => ∃ E ρ q x, DEnv F E σ H ρ ∧ XAt mg F.K i a cls d E σ H x ∧ t x ρ q ∧ ∀ b, q b → ∀ H', XExt F H H' → Q b H'
structure ZServes (F : Fx) (mg : Str → Option Value) (x : XD) (Z : DEnds) (D_ : Ends) : Prop where
  nx : ∀ ρ, Z.nx ρ → ∀ E σ H, DEnv F E σ H ρ → XAt mg F.K i a cls d E σ H x → D_.nx σ H
  rt : ∀ e, Z.rt e → ∀ v H', XExt F F.H0 H' → Dn F.K F.B H' e v → D_.rt v H'
  bk : ∀ ρ, Z.bk ρ → ∀ E σ H, DEnv F E σ H ρ → D_.bk σ H
  ct : ∀ ρ, Z.ct ρ → ∀ E σ H, DEnv F E σ H ρ → D_.ct σ H
def liftZS (F : Fx) (mg : Str → Option Value) (t : ZS) : TS := fun D_ σ H => ∃ E ρ Z x, DEnv F E σ H ρ ∧ XAt mg F.K i a cls d E σ H x ∧ t x Z ρ ∧ ZServes i a cls d F mg x Z D_
def ZED (X : Cx) (e : Expr) (t : ZE) : Prop := ∀ F : Fx, F.K = X.K → PE X e (liftZE i a cls d F X.mg t)
def ZLD (X : Cx) (es : List Expr) (t : ZL) : Prop := ∀ F : Fx, F.K = X.K → PA X es (liftZL i a cls d F X.mg t)
def ZTD (X : Cx) (e : Expr) (t : ZT) : Prop := ∀ F : Fx, F.K = X.K → PT X e (liftZT i a cls d F X.mg t)
def ZSD (X : Cx) (s : Stmt) (t : ZS) : Prop := ∀ F : Fx, F.K = X.K → PS X s (liftZS i a cls d F X.mg t)
def ZSsD (X : Cx) (ss : List Stmt) (t : ZS) : Prop := ∀ F : Fx, F.K = X.K → PSs X ss (liftZS i a cls d F X.mg t)
end
section
variable {X : Cx} {i j : Nat} {a : Addr} {cls : Value} {d : Option Addr} {e b1 b2 : Expr} {es : List Expr} {ta : RE} {te tf : ZE} {tl : ZL} {tt : ZT} {t u : ZS} {st : Stmt} {rest : List Stmt} {pos p p1 p2 : Pos}
theorem z_of (h : ED X e ta) : ZED i a cls d X e (fun _ => ta) := fun F hF => (h F hF).imp fun σ H Q => by
  rintro ⟨E, ρ, q, x, env, xa, ht, k⟩
  exact ⟨E, ρ, q, env, ht, k⟩
/-- error.f, error of the class c -/
def zfld (c f : Str) : ZE := fun x _ q => x.c = c ∧ ∃ e, x.fs.lookup f = some e ∧ q e
theorem lookup_dna {K : PySem.W.Frag} {E : Addr → Prop} {H : Hp} {f : Str} {e : D} : ∀ {fs : List (Str × V)} {xs : List (Str × D)}, fs.map (·.1) = xs.map (·.1) → DnA K E H (xs.map (·.2)) (fs.map (·.2)) → xs.lookup f = some e → ∃ v, fs.lookup f = some v ∧ Dn K E H e v
  | [], [], _, _, h => by cases h
  | [], _ :: _, h, _, _ => by cases h
  | _ :: _, [], h, _, _ => by cases h
  | (g, v) :: fs, (g', y) :: xs, h, ⟨w, r, ew, h1, h2⟩, hl => by
    rw [List.map_cons, List.map_cons] at h
    injection h with h3 h4
    dsimp only at h3
    subst h3
    rw [List.map_cons] at ew
    injection ew with e1 e2
    dsimp only at e1
    subst e1 e2
    rw [List.lookup_cons] at hl ⊢
    cases c : (f == g) with
    | true =>
      rw [c] at hl
      cases hl
      exact ⟨v, rfl, h1⟩
    | false =>
      rw [c] at hl
      exact lookup_dna h4 h2 hl
theorem z_fld {Y : Cx} {oe : Obj} {pn : List (Addr × Obj)} {c f n : Str} {N Ys : List Str} (T : ExTab Y.K Y.mg N Ys) (hcN : c ∈ N) (hno : ∀ C, Y.mg c = some (.ref C) → PySem.W.findIn Y.K (.ref C) f = some none) (hz : L2N.Zn cls d oe) (hf : ∃ vs, oe.data = .fields vs)
    (he : PE (Y.suite a ((a, oe) :: pn)) e (tVar i)) (hb : attributeBase e f Y.env (eval e Y.env) = eval e Y.env := by rfl) : ZED i a cls d (Y.suite a ((a, oe) :: pn)) (.Attribute e f pos) (zfld c f) := fun F hF => by
  obtain ⟨C, gC, hC, _⟩ := T c hcN
  refine (pe_xf (C := C) ⟨hC.hga, hC.hgt, hC.hsub, hC.hd⟩ (hno C gC) hz.zc hf he hb).imp fun σ H Q => ?_
  rintro ⟨E, ρ, q, x, env, ⟨hi, C', m, ec, rest⟩, ⟨exc, w, hl, hq⟩, k⟩
  subst exc
  rw [show Y.mg x.c = some (.ref C) from gC] at m
  cases m
  refine ⟨.ref a, hi, rfl, ec, ?_⟩
  rcases rest with ⟨e0, _⟩ | ⟨dd, fs, ed, nE, hH, en, g⟩
  · rw [e0] at hl; cases hl
  · obtain ⟨v, h1, h2⟩ := lookup_dna en g hl
    exact ⟨dd, fs, v, ed, hH, h1, k _ hq v H (XExt.refl env.so) h2⟩
/-- isinstance(error, y) -/
def rIsX (K : PySem.W.Frag) (a : Addr) (cls : Value) (d : Option Addr) : List V → Hp → VK → Prop := fun xs H Q => ∃ (C : Addr) (b : Bool), xs = [.ref a, .ref C] ∧ (∃ D, cls = .ref D ∧ XcC K D) ∧ PySem.W.kitOne K cls (.ref C) = some b ∧ (d = none ∨ ∃ dd fs, d = some dd ∧ H dd = some (.xd fs)) ∧ Q (.bl b) H
theorem call_isX {Y : Cx} {oe : Obj} {pn : List (Addr × Obj)} (hz : L2N.Zn cls d oe) (hf : ∃ vs, oe.data = .fields vs) : CallR (Y.suite a ((a, oe) :: pn)) (.builtin "isinstance") (rIsX Y.K a cls d) := by
  intro pins s σ H xs us Q I r h
  obtain ⟨C, b, rfl, ⟨D, rfl, T⟩, e, hd, q⟩ := h
  cases r with
  | cons rx rr =>
    cases rr with
    | cons rt rr =>
      cases rr
      cases rx
      cases rt
      obtain ⟨hget, _⟩ := I.pin (a, oe) (List.mem_append.mpr (.inl List.mem_cons_self))
      obtain ⟨vs, hv⟩ := hf
      have inst : ∃ od, PySem.W.InstAt s.heap a oe D od := by
        obtain ⟨h1, h2, _⟩ := hz
        have nc : PySem.W.notCls oe = true := by unfold PySem.W.notCls; rw [hv] <;> rfl
        rcases hd with rfl | ⟨dd, fs, rfl, hH⟩
        · exact ⟨none, hget, h1, nc, by rw [h2]; trivial⟩
        · obtain ⟨mA, ⟨o, es, ep, ho, _⟩, _⟩ := (show ObjOk Y.prog Y.w H s.heap dd (.xd fs) from I.hok dd _ hH)
          exact ⟨some o, hget, h1, nc, by rw [h2]; exact ho⟩
      obtain ⟨od, J⟩ := inst
      exact PySem.W.kia_one (PySem.W.kitx_exc (od := od) T.hcl T.hga T.hgt T.hsub T.ha T.hn T.ht T.hm) I.kIn J e (fun z => nomatch z) fun tk => ⟨.bl b, H, I.kept (t' := tk) fun _ _ z => z, rfl, q⟩
def zisi (N : List Str) (y : Str) : ZE := fun x _ q => x.c ∈ N ∧ q (.bl (isub x.c y))
theorem z_isi {Y : Cx} {oe : Obj} {pn : List (Addr × Obj)} {n y : Str} {N Ys : List Str} (T : ExTab Y.K Y.mg N Ys) (hy : y ∈ Ys) (hz : L2N.Zn cls d oe) (hf : ∃ vs, oe.data = .fields vs) (hg : Gl Y "isinstance") (hm : Y.mg "isinstance" = none) (hgy : Gl Y y)
    (he : PE (Y.suite a ((a, oe) :: pn)) (.Name n p1) (tVar i)) (hdb : (y == ("__debug__" : Str)) = false := by decide)
    (h1 : starEach [.Name n p1, .Name y p2] Y.env = (false, eval (.Name n p1) Y.env) :: starEach [.Name y p2] Y.env := by rfl) (h2 : starEach [.Name y p2] Y.env = (false, eval (.Name y p2) Y.env) :: starEach [] Y.env := by rfl)
    (hpl : (backTo pos (starEach [.Name y p2] Y.env)).any (·.1) = false := by rfl) :
    ZED i a cls d (Y.suite a ((a, oe) :: pn)) (.Call (.Name "isinstance" p) [.Name n p1, .Name y p2] [] pos) (zisi N y) := fun F hF => by
  have gy : ∀ C, Y.mg y = some (.ref C) → PE (Y.suite a ((a, oe) :: pn)) (.Name y p2) (tC (.ref C)) := fun C m => ⟨fun pins s σ H Q I h => ld_glob I hgy m ⟨.ref C, H, I, rfl, h⟩ hdb⟩
  by_cases hC : ∃ C, Y.mg y = some (.ref C)
  · obtain ⟨C, gC⟩ := hC
    refine (pe_callB (call_isX hz hf) hg hm PyProof.Rows.boot_isinstance (pa_cons he (pa_cons (gy C gC) pa_nil h2) h1) (by decide) (by decide) h1 hpl).imp fun σ H Q => ?_
    rintro ⟨E, ρ, q, x, env, ⟨hi, D, m, ec, rest⟩, ⟨hN, hq⟩, k⟩
    obtain ⟨D', m', hX, hall⟩ := T x.c hN
    rw [show Y.mg x.c = some (.ref D) from m] at m'
    cases m'
    obtain ⟨C', mC, hk, _⟩ := hall y hy
    rw [gC] at mC
    cases mC
    refine ⟨.ref a, hi, C, isub x.c y, rfl, ⟨D, ec, hX⟩, by rw [ec]; exact hk, rest.imp (fun z => z.2) (fun ⟨dd, fs, e1, _, e2, _⟩ => ⟨dd, fs, e1, e2⟩), k _ hq _ H (XExt.refl env.so) rfl⟩
  · refine PE.imp (t := fun _ _ _ => False) ⟨fun pins s σ H Q I h => h.elim⟩ fun σ H Q => ?_
    rintro ⟨E, ρ, q, x, env, xa, ⟨hN, hq⟩, k⟩
    obtain ⟨D', m', hX, hall⟩ := T x.c hN
    obtain ⟨C', mC, _⟩ := hall y hy
    exact hC ⟨C', mC⟩

/-! ### more of the suites -/
theorem zl_nil : ZLD i a cls d X [] (fun _ => lnil) := fun F hF => pa_nil.imp fun σ H Q => by
  rintro ⟨E, ρ, q, x, env, xa, h, k⟩
  exact k _ h _ H (XExt.refl env.so) rfl
theorem zl_cons (ha : ZED i a cls d X e te) (hr : ZLD i a cls d X es tl) (hs : starEach (e :: es) X.env = (false, eval e X.env) :: starEach es X.env := by rfl) : ZLD i a cls d X (e :: es) (fun x => lcons (te x) (tl x)) := fun F hF => (pa_cons (ha F hF) (hr F hF) hs).imp fun σ H Q => by
  rintro ⟨E, ρ, q, x, env, xa, h, k⟩
  refine ⟨E, ρ, _, x, env, xa, h, fun y hy v H1 x1 hv => ?_⟩
  have e1 := env.step x1
  exact ⟨E, ρ, _, x, e1, xa.ext (env.fe x1), hy, fun ys hys vs H2 x2 hvs => k _ hys _ H2 (x1.trans x2) ⟨v, vs, rfl, e1.dn x2 hv, hvs⟩⟩
theorem z_tup {x1} (h : ZLD i a cls d X es tl) : ZED i a cls d X (.Tuple es x1 pos) (fun x => dtup (tl x)) := fun F hF => (pe_tup (h F hF)).imp fun σ H Q => by
  rintro ⟨E, ρ, q, x, env, xa, h, k⟩
  refine ⟨E, ρ, _, x, env, xa, h, fun ds hd vs H1 x1 hv => ⟨by rw [hv.len]; exact hd.1, fun p hp => ?_⟩⟩
  have e1 := env.step x1
  exact k _ hd.2 _ _ (x1.trans (XExt.new e1.so hp)) (e1.at_.tup hp hv)
theorem z_lst (h : ZLD i a cls d X es tl) : ZED i a cls d X (.List es pos) (fun x => dlst (tl x)) := fun F hF => (pe_lst (h F hF)).imp fun σ H Q => by
  rintro ⟨E, ρ, q, x, env, xa, h, k⟩
  refine ⟨E, ρ, _, x, env, xa, h, fun ds hd vs H1 x1 hv => ⟨by rw [hv.len]; exact hd.1, fun p hp => ?_⟩⟩
  have e1 := env.step x1
  exact k _ hd.2 _ _ (x1.trans (XExt.new e1.so hp)) (e1.at_.lst hp hv)
theorem z_val (h : ZED i a cls d X e te) (he : ∀ whole, isTrue e X.env whole = (do let v ← whole; standAt e.pos; holding [v] (truthy v)) := by intro _; rfl) : ZTD i a cls d X e (fun x => dtest (te x)) := fun F hF => (pt_val (h F hF) he).imp fun σ H Q => by
  rintro ⟨E, ρ, q, x, env, xa, h, k⟩
  refine ⟨E, ρ, _, x, env, xa, h, fun y hy v H' x1 hv => ?_⟩
  cases y with
  | bl b => exact ⟨b, hv, k b hy H' x1⟩
  | _ => exact (show False from hy).elim
theorem z_if (hc : ZTD i a cls d X e tt) (ha : ZED i a cls d X b1 te) (hb : ZED i a cls d X b2 tf) : ZED i a cls d X (.IfExp e b1 b2 pos) (fun x => dif (tt x) (te x) (tf x)) := fun F hF => (pe_ifExp (hc F hF) (ha F hF) (hb F hF)).imp fun σ H Q => by
  rintro ⟨E, ρ, q, x, env, xa, h, k⟩
  refine ⟨E, ρ, _, x, env, xa, h, fun b hb H1 x1 => ?_⟩
  cases b with
  | true =>
    rw [if_pos rfl] at hb ⊢
    exact ⟨E, ρ, q, x, env.step x1, xa.ext (env.fe x1), hb, fun y hy v H2 x2 hv => k y hy v H2 (x1.trans x2) hv⟩
  | false =>
    rw [if_neg Bool.false_ne_true] at hb ⊢
    exact ⟨E, ρ, q, x, env.step x1, xa.ext (env.fe x1), hb, fun y hy v H2 x2 hv => k y hy v H2 (x1.trans x2) hv⟩
def liftZF (i : Nat) (a : Addr) (cls : Value) (d : Option Addr) (F : Fx) (mg : Str → Option Value) (t : ZL) : TE := fun σ H Q => ∃ E ρ q x, DEnv F E σ H ρ ∧ XAt mg F.K i a cls d E σ H x ∧ t x ρ q ∧ ∀ ds, q ds → ∀ p xs H', XExt F H H' → H p = none → H' p = some (.lst xs) → DnA F.K (plus E p) H' ds xs → Q (.ref p) H'
def ZFD (i : Nat) (a : Addr) (cls : Value) (d : Option Addr) (X : Cx) (e : Expr) (t : ZL) : Prop := ∀ F : Fx, F.K = X.K → PE X e (liftZF i a cls d F X.mg t)
theorem zf_lst (h : ZLD i a cls d X es tl) : ZFD i a cls d X (.List es pos) (fun x => flst (tl x)) := fun F hF => (pe_lst (h F hF)).imp fun σ H Q => by
  rintro ⟨E, ρ, q, x, env, xa, h, k⟩
  refine ⟨E, ρ, _, x, env, xa, h, fun ds hd vs H1 x1 hv => ⟨by rw [hv.len]; exact hd.1, fun p hp => ?_⟩⟩
  have e1 := env.step x1
  exact k _ hd.2 p vs _ (x1.trans (XExt.new e1.so hp)) (XExt.free env x1 hp) upd_same (new_dna e1.at_ hp hv)
variable {y : Str} {pos' : Pos}
theorem zs_set (hji : j ≠ i) (hN : X.N.Nodup) (hi : X.N[j]? = some y) (hx : Loc X.env.scope y) (he : ZED i a cls d X e te) (hs : swapsWith e (some (.Name y pos')) pos.line X.env = pure false := by rfl) (hf : X.fn y = true ∨ X.env.scope.names.lookup y = some .local := by first | exact .inl rfl | exact .inr rfl | assumption) :
    ZSD i a cls d X (.Assign [.Name y pos'] e pos) (fun x => sset j (te x)) := fun F hF => (ps_set hN hi hx (he F hF) hs hf).imp fun D_ σ H => by
  rintro ⟨E, ρ, Z, x, env, xa, h, sv⟩
  exact ⟨E, ρ, _, x, env, xa, h, fun e he' v H1 x1 hv => sv.nx _ he' E _ H1 ((env.step x1).set hv) ((xa.ext (env.fe x1)).set hji)⟩
theorem zs_own (hji : j ≠ i) (hN : X.N.Nodup) (hi : X.N[j]? = some y) (hx : Loc X.env.scope y) (he : ZFD i a cls d X e tl) (hs : swapsWith e (some (.Name y pos')) pos.line X.env = pure false := by rfl) (hf : X.fn y = true ∨ X.env.scope.names.lookup y = some .local := by first | exact .inl rfl | exact .inr rfl | assumption) :
    ZSD i a cls d X (.Assign [.Name y pos'] e pos) (fun x => sown j (tl x)) := fun F hF => (ps_set hN hi hx (he F hF) hs hf).imp fun D_ σ H => by
  rintro ⟨E, ρ, Z, x, env, xa, h, sv⟩
  refine ⟨E, ρ, _, x, env, xa, h, fun ds hd p xs H1 x1 hp hp' ha => ?_⟩
  have e1 := env.shut x1 hp ⟨_, hp'⟩
  refine sv.nx _ hd _ _ H1 (env.own e1 (.inr rfl) (env.nE hp) (env.h0 hp) hp' ha) (XAt.set hji ⟨xa.1, ?_⟩)
  exact XOk.ext (x1.1.weaken fun b w => .inl (env.we w)) (xa.2.more fun b hb => hb.elim .inl fun z => .inr (z ▸ hp))
theorem zs_app {o : Expr} {apos cpos : Pos} (ho : PE X o (tVar j)) (he : ZED i a cls d X e te)
    (hbase : attributeBase o "append" X.env (eval o X.env) = eval o X.env := by rfl)
    (hfew : ((backTo cpos (starEach (e :: []) X.env)).all (fun x => !x.1) && (backToKw cpos (keywordEach [] X.env)).all (fun x => x.1.isSome)
      && decide ((e :: []).length + ([] : List Keyword).length + (if ([] : List Keyword).isEmpty then 0 else 1) < 30)) = true := by rfl)
    (hline : (apos.endLine == cpos.line) = true := by rfl) (hs : starEach (e :: []) X.env = (false, eval e X.env) :: starEach [] X.env := by rfl) (hplain : (backTo cpos (starEach [] X.env)).any (·.1) = false := by rfl)
    (hsw : swapsWith (.Call (.Attribute o "append" apos) [e] [] cpos) none pos.line X.env = pure false := by rfl) :
    ZSD i a cls d X (.Expr (.Call (.Attribute o "append" apos) [e] [] cpos) pos) (fun x => sapp j (te x)) := fun F hF =>
  (ps_expr (pe_bm PySem.F.plainAttrs_list PySem.F.slot_list_append PySem.F.type_list_append mt_append ho (pa_cons (he F hF) pa_nil hs) hbase hfew hline hs hplain) hsw).imp fun D_ σ H => by
  rintro ⟨E, ρ, Z, x, env, xa, h, sv⟩
  unfold sapp at h
  split at h
  · rename_i ds hi
    obtain ⟨v, hv, p, xs, ev, hE, hB, h0, hp, ha⟩ := env.sl j _ hi
    subst ev
    refine ⟨_, hv, .inl ⟨rfl, xs, SqL.of hp⟩, ?_⟩
    refine ⟨E, ρ, _, x, env, xa, h, fun e he' w H1 x1 hw => ?_⟩
    have e1 := env.step x1
    have xa1 := xa.ext (env.fe x1)
    obtain ⟨v', hv', p', xs', ev, hE', hB', h0', hp', ha'⟩ := e1.sl j _ hi
    rw [hv] at hv'; cases hv'; cases ev
    refine ⟨p, xs', w, rfl, rfl, hp', by rw [ha'.len]; exact he'.1, ?_⟩
    refine sv.nx _ he'.2 E σ _ (e1.write hi hv (ha'.app (DnA.one hw))) ⟨xa.1, XOk.ext (fun b o q hb => ?_) xa1.2⟩
    rw [upd_ne (fun z : b = p => hb (z ▸ hE))]
    exact q
  · exact h.elim
/-- a suite -/
def liftZQ (i : Nat) (a : Addr) (cls : Value) (d : Option Addr) (F : Fx) (mg : Str → Option Value) (t : ZS) : TS := fun D_ σ H => ∃ E ρ Z x, DEnv F E σ H ρ ∧ XAt mg F.K i a cls d E σ H x ∧ t x Z ρ ∧ Serves F Z D_
def ZQD (i : Nat) (a : Addr) (cls : Value) (d : Option Addr) (X : Cx) (ss : List Stmt) (t : ZS) : Prop := ∀ F : Fx, F.K = X.K → PSs X ss (liftZQ i a cls d F X.mg t)
theorem zq_rest {ss : List Stmt} {t : RS} (h : SsD X ss t) : ZQD i a cls d X ss (fun _ => t) := fun F hF => (h F hF).imp fun D_ σ H => by
  rintro ⟨E, ρ, Z, x, env, xa, ht, sv⟩
  exact ⟨E, ρ, Z, env, ht, sv⟩
theorem zq_one (h : ZSD i a cls d X st t) : ZQD i a cls d X [st] t := fun F hF => (pss_one (h F hF)).imp fun D_ σ H => by
  rintro ⟨E, ρ, Z, x, env, xa, ht, sv⟩
  exact ⟨E, ρ, Z, x, env, xa, ht, ⟨fun ρ' h' E' σ' H' e' _ => sv.nx ρ' h' E' σ' H' e', sv.rt, sv.bk, sv.ct⟩⟩
theorem zq_cons (h : ZSD i a cls d X st t) (hr : ZQD i a cls d X rest u) : ZQD i a cls d X (st :: rest) (fun x => sseq (t x) (u x)) := fun F hF => (pss_cons (h F hF) (hr F hF)).imp fun D_ σ H => by
  rintro ⟨E, ρ, Z, x, env, xa, ht, sv⟩
  exact ⟨E, ρ, _, x, env, xa, ht, ⟨fun ρ' h' E' σ' H' e' xa' => ⟨E', ρ', Z, x, e', xa', h', sv⟩, sv.rt, sv.bk, sv.ct⟩⟩
end
/-! ### try -/
theorem DEnv.unset {F : Fx} {E : Addr → Prop} {σ : L2.St} {H : Hp} {ρ : Rho} (e : DEnv F E σ H ρ) (i : Nat) (v : Option V) : DEnv F E (σ.set i v) H (ρ.set i none) where
  fr := e.fr
  wb := e.wb
  sub := e.sub
  live := e.live
  so := e.so
  len := by rw [List.length_set, List.length_set]; exact e.len
  hl := e.hl
  sl := fun j s hs => by
    rcases set_get hs with ⟨_, es, _⟩ | ⟨hj, hs⟩
    · cases es
    · obtain ⟨w, h1, h2⟩ := e.sl j s hs
      exact ⟨w, by rw [List.getElem?_set_ne (Ne.symm hj)]; exact h1, h2⟩
  inj := fun j k s t w hj hk os ot wj wk => by
    rcases set_get hj with ⟨_, es, _⟩ | ⟨nj, hj⟩
    · cases es
    rcases set_get hk with ⟨_, es, _⟩ | ⟨nk, hk⟩
    · cases es
    rw [List.getElem?_set_ne (Ne.symm nj)] at wj
    rw [List.getElem?_set_ne (Ne.symm nk)] at wk
    exact e.inj j k s t w hj hk os ot wj wk
def goneZ (i : Nat) (Z : DEnds) : DEnds := ⟨fun ρ => Z.nx (ρ.set i none), Z.rt, fun ρ => Z.bk (ρ.set i none), fun ρ => Z.ct (ρ.set i none)⟩
/-- what the clauses make of an exception -/
def caught (N : List Str) (i : Nat) : List (Str × ZS) → XD → DEnds → Rho → Prop
  | [], _, _, _ => False
  | p :: r, x, Z, ρ => x.c ∈ N ∧ i < ρ.length ∧ if isub x.c p.1 = true then p.2 x (goneZ i Z) (ρ.set i none) else caught N i r x Z ρ
def stry (N : List Str) (i : Nat) (tb : RXS) (cl : List (Str × ZS)) : RS := fun Z ρ => tb ⟨Z, fun ρ' x => caught N i cl x Z ρ'⟩ ρ
def SuiteD (X : Cx) (i : Nat) (ss : List Stmt) (t : ZS) : Prop := ∀ (a : Addr) (oe : Obj) (cls : Value) (d : Option Addr) (pn : List (Addr × Obj)), L2N.Zn cls d oe → (∃ vs, oe.data = .fields vs) → ZQD i a cls d (X.suite a ((a, oe) :: pn)) ss t
inductive ClD (X : Cx) (Ys : List Str) (i : Nat) (n : Str) : List ExceptHandler → List (Str × ZS) → Prop
  | nil : ClD X Ys i n [] []
  | cons {x : Str} {ts : ZS} {s0 : Stmt} {ss : List Stmt} {p1 p2 : Pos} {hs : List ExceptHandler} {l : List (Str × ZS)} (hg : Gl X x) (hy : x ∈ Ys) (h : SuiteD X i (s0 :: ss) ts) (r : ClD X Ys i n hs l) (hdb : (x == ("__debug__" : Str)) = false := by decide) :
      ClD X Ys i n (.ExceptHandler (some (.Name x p1)) (some n) (s0 :: ss) p2 :: hs) ((x, ts) :: l)
theorem tab_mg {K : PySem.W.Frag} {mg : Str → Option Value} {N Y : List Str} (T : ExTab K mg N Y) (hne : N ≠ []) {y : Str} (hy : y ∈ Y) : ∃ C, mg y = some (.ref C) := by
  obtain ⟨c, hc⟩ := List.exists_mem_of_ne_nil N hne
  obtain ⟨D, _, _, h⟩ := T c hc
  obtain ⟨C, m, _⟩ := h y hy
  exact ⟨C, m⟩
theorem takesN {X : Cx} : L2N.Takes X (fun _ _ _ _ => False) := fun _ _ ⟨_, _, _, _, _, _, _, _, _, _, _, _, _, _, _, _, z⟩ => z.elim
theorem s_try {X : Cx} {i : Nat} {n : Str} {N Ys : List Str} {body : List Stmt} {h0 : ExceptHandler} {hs : List ExceptHandler} {cl : List (Str × ZS)} {tb : RXS} {pos : Pos} (T : ExTab X.K X.mg N Ys) (hne : N ≠ [])
    (st : X.stack = X.env :: X.outer) (hf : X.env.frame = some X.env.locals) (hN : X.N.Nodup) (hi : X.N[i]? = some n) (hl : X.env.kindOf n = some .local)
    (hb : ∀ (W : WX) (pn : List (Addr × Obj)) (xe : Value → Shared → Prop), L2N.Takes (X.tr pn xe) W → PassesOwn (model X.prog X.w) X.A X.env xe → XSsD (X.tr pn xe) W body tb)
    (hc : ClD X Ys i n (h0 :: hs) cl) : SD X (.Try body (h0 :: hs) [] [] pos) (stry N i tb cl) := fun F hF => by
  have clauses : ∀ {hs : List ExceptHandler} {cl : List (Str × ZS)}, ClD X Ys i n hs cl → ∃ l, Clauses X n hs l ∧ ∀ (Z : DEnds) (D_ : Ends), Serves F Z D_ → ∀ ρ x, caught N i cl x Z ρ → ∀ E σ H cls d, DEnv F E σ H ρ → XOk X.mg F.K E H x cls d → wClauses X.K i (fun _ _ _ _ => False) D_ l cls d σ H := by
    intro hs cl hc
    induction hc with
    | nil => exact ⟨[], .nil, fun Z D_ sv ρ x h => h.elim⟩
    | @cons x ts s0 ss p1 p2 hs l hg hy h r hdb ih =>
      obtain ⟨l', k1, k2⟩ := ih
      obtain ⟨C, gC⟩ := tab_mg T hne hy
      refine ⟨(.ref C, fun a cls d => liftZQ i a cls d F X.mg ts) :: l', .cons ⟨hg, hdb, .inl gC⟩ (fun a oe cls d pn hz hfl => h a oe cls d pn hz hfl F hF) k1, fun Z D_ sv ρ x' hx E σ H cls d env xo => ?_⟩
      obtain ⟨hN', hil, hx⟩ := hx
      obtain ⟨D, mD, hX, hall⟩ := T x'.c hN'
      obtain ⟨C', mC, _, hk⟩ := hall x hy
      rw [gC] at mC
      cases mC
      obtain ⟨D', mD', ec, rest⟩ := id xo
      rw [mD] at mD'
      cases mD'
      refine ⟨isub x'.c x, by rw [ec]; exact hk, fun hb a na => ?_, fun hb => ?_⟩
      · rw [if_pos hb] at hx
        refine ⟨E, _, goneZ i Z, x', env.unset i _, ⟨?_, xo⟩, hx, ⟨fun ρ' h' E' σ' H' e' => sv.nx _ h' E' _ H' (e'.unset i none), sv.rt, fun ρ' h' E' σ' H' e' => sv.bk _ h' E' _ H' (e'.unset i none), fun ρ' h' E' σ' H' e' => sv.ct _ h' E' _ H' (e'.unset i none)⟩⟩
        exact List.getElem?_set_self (by rw [env.len]; exact hil)
      · rw [if_neg (by rw [hb]; exact Bool.false_ne_true)] at hx
        exact k2 Z D_ sv ρ x' hx E σ H cls d env xo
  obtain ⟨l, hcl, hw⟩ := clauses hc
  refine (ps_tryC (Wo := fun _ _ _ _ => False) (tb := fun W => liftXS F X.mg W tb) st hf hN hi hl takesN (fun W pn xe tk hp => hb W pn xe tk hp F hF) hcl).imp fun D_ σ H => ?_
  rintro ⟨E, ρ, Z, env, h, sv⟩
  exact ⟨E, ρ, _, env, h, sv, fun ρ' x hx E' σ' H' cls d env' xo => hw Z D_ sv ρ' x hx E' σ' H' cls d env' xo⟩
end DL

set_option Elab.async false
set_option linter.all false
set_option maxRecDepth 100000
set_option maxHeartbeats 4000000
/-! a comprehension over range(n) in an except suite -/
namespace DL
open PySem PySem.Spec PySem.Calls PyProof.Rows L2 L2H
section
variable {X : Cx}
/-- an iterator over range(n), i steps gone -/
abbrev AtIt (it : Addr) (n i : Nat) (h : Heap) : Prop := IsRangeIter h it (0 + (i : Nat) * 1) ((n : Int) - (i : Nat)) 1
theorem lcH_core {elt tg a : Expr} {ifs : List Expr} {scope : Scope} {own : List (Str × Nat)} {pos p0 p1 pos' : Pos} {ta : TA} {g : TG} {tt : TT} {te : TE} {pins : List (Addr × Obj)} {s : Shared} {σ : L2.St} {H : Hp} {Q : VK} {use : Option (Value → Sem Unit)} {Qf : Value → Shared → Prop}
    (hot : HotC X) (hN : X.N.Nodup) (I : Inv X pins σ H s) (hgr : Gl X "range") (hmr : X.mg "range" = none) (ha : PA X [a] ta) (ok : BlkOk X.N X.env.scope scope own)
    (hg : ∀ (s : Shared) (H : Hp) (C : Addr) (cl : List (Str × Addr)) (fp : List Addr), PG (X.blk s H scope (compEnvC scope cl C X.env) fp) tg g) (ht : ∀ (s : Shared) (H : Hp) (C : Addr) (cl : List (Str × Addr)) (fp : List Addr), PTs (X.blk s H scope (compEnvC scope cl C X.env) fp) ifs tt)
    (he : ∀ (s : Shared) (H : Hp) (C : Addr) (cl : List (Str × Addr)) (fp : List Addr), PE (X.blk s H scope (compEnvC scope cl C X.env) fp) elt te) (hs : ∀ x, foldedSetIterable (.Call (.Name "range" p0) [a] [] p1) X.env x = pure x)
    (hst : starEach [a] X.env = [(false, eval a X.env)]) (h : tLc (iRng1 ta) g tt te (own.map (·.2)) σ H Q)
    (hRR : ∀ D C s' m H', Inv X pins σ H' s' → Q (.ref D) H' → s'.heap.Ns C m → FpOk X pins H' C → compPost (model X.prog X.w) X.A X.xe use Qf (.ref D) C (.ok .next) s') :
    wpAny (model X.prog X.w) X.A (comprehension (.ListComp elt [⟨tg, .Call (.Name "range" p0) [a] [] p1, ifs, 0⟩] scope pos) scope X.env pos' (newList []) false (eval (.Call (.Name "range" p0) [a] [] p1) X.env) use) Qf X.xe s := by
  have hfree : ∀ y ∈ scope.names, y.2 = .free → ∃ c, X.env.cells.lookup y.1 = some c := fun y hy e => I.ok.has _ (ok.free y hy e)
  refine wpAny_comprehension_free (use := use) rfl hs (closure_ok hfree) ok.kind (fun y hy e => (ok.uniq y hy).trans (congrArg some e)) ?_
  -- the range and its iterator
  refine Call_ (ld_blt I hgr hmr boot_range (PyProof.Rows.callWith_type1 (thn (ha.run p1 pins s σ H _ I h) fun us s1 hh => ?_) hst rfl))
  obtain ⟨vs, H1, I1, r1, j, e, q1, q2, q⟩ := hh
  subst e
  obtain ⟨t, rfl⟩ : ∃ t, us = [.int j t] := by
    cases r1 with
    | cons r rr =>
      cases rr
      obtain ⟨t, rfl⟩ := r
      exact ⟨t, rfl⟩
  refine call_range_1 ?_
  generalize hn : j.toNat = n at q
  refine wpAny_pyIter_range (IsRange.new ..) (small_one (by omega) (by omega) q1 q2) ?_
  have Ia : Inv X pins σ H1 { s1 with heap := s1.heap.push { cls := .type "range", data := .fields #[.int 0 s1.toks, .int j t, .int 1 (s1.toks + 1)] }, toks := s1.toks + 1 + 1 } := I1.kept (t' := s1.toks + 1 + 1) fun b o z => Heap.get?_push_of_some _ z
  have hfp := Ia.fpOk (Nat.le_refl _) (Ia.hok.fresh (Nat.le_refl _))
  have Ib : Inv X pins σ H1 { s1 with heap := (s1.heap.push { cls := .type "range", data := .fields #[.int 0 s1.toks, .int j t, .int 1 (s1.toks + 1)] }).push { cls := .type "range_iterator", data := .fields #[rawInt 0, rawInt (Builtin.Range.rangeSize 0 j 1), rawInt 1] }, toks := s1.toks + 1 + 1 } := Ia.kept (t' := s1.toks + 1 + 1) fun b o z => Heap.get?_push_of_some _ z
  have at0 : AtIt (s1.heap.push { cls := .type "range", data := .fields #[.int 0 s1.toks, .int j t, .int 1 (s1.toks + 1)] }).objs.size n 0 ((s1.heap.push { cls := .type "range", data := .fields #[.int 0 s1.toks, .int j t, .int 1 (s1.toks + 1)] }).push { cls := .type "range_iterator", data := .fields #[rawInt 0, rawInt (Builtin.Range.rangeSize 0 j 1), rawInt 1] }) := by
    have e1 : (0 : Int) + ((0 : Nat) : Int) * 1 = 0 := by simp
    have e2 : (n : Int) - ((0 : Nat) : Int) = Builtin.Range.rangeSize 0 j 1 := by rw [rangeSize_one, ← hn]; split <;> omega
    show IsRangeIter _ _ ((0 : Int) + ((0 : Nat) : Int) * 1) ((n : Int) - ((0 : Nat) : Int)) 1
    rw [e1, e2]
    exact Heap.get?_push_size _ rfl
  generalize hit : (s1.heap.push { cls := .type "range", data := .fields #[.int 0 s1.toks, .int j t, .int 1 (s1.toks + 1)] }).objs.size = it at hfp at0 ⊢
  generalize hsb : ({ s1 with heap := (s1.heap.push { cls := .type "range", data := .fields #[.int 0 s1.toks, .int j t, .int 1 (s1.toks + 1)] }).push { cls := .type "range_iterator", data := .fields #[rawInt 0, rawInt (Builtin.Range.rangeSize 0 j 1), rawInt 1] }, toks := s1.toks + 1 + 1 } : Shared) = sb at Ib
  have at1 : AtIt it n 0 sb.heap := by rw [← hsb]; exact at0
  clear at0
  obtain ⟨p, hot1, hpn⟩ := hot
  obtain ⟨hnd, v1, dp, cp⟩ := hot1
  refine wpAny_newObj_type (newEnv_comp ?_) (by show 0 ≤ sizeLine; decide)
  generalize hD : sb.heap.objs.size = D
  have hDn : H1 D = none := Ib.hok.fresh (Nat.le_of_eq hD)
  obtain ⟨W, ⟨m0, w0⟩, turn⟩ := q D hDn
  -- the state with the new list
  generalize hsc : ({ sb with heap := sb.heap.push { cls := .type "list", data := .seq ([] : List Value).toArray } } : Shared) = sc
  have keepc : ∀ b o, sb.heap.get? b = some o → sc.heap.get? b = some o := fun b o z => by rw [← hsc]; exact Heap.get?_push_of_some _ z
  have Ic : Inv X pins σ (upd H1 D (.lst [])) sc := by
    rw [← hsc]
    refine Ib.laid (t' := sb.toks) (fun b o z => Heap.get?_push_of_some _ z) (Nat.le_of_eq hD) ⟨Nat.zero_le _, [], 0, .nil, ?_⟩
    rw [← hD]
    exact Heap.get?_push_size _ rfl
  have itlt : it < sb.heap.objs.size := Heap.lt_size at1
  have nDit : it ≠ D := by rw [← hD]; exact Nat.ne_of_lt itlt
  have atc : AtIt it n 0 sc.heap := keepc _ _ at1
  have hfc : FpOk X pins (upd H1 D (.lst [])) it := ⟨by rw [upd_ne nDit]; exact hfp.1, hfp.2⟩
  have I4 := block_start (fp := [it]) Ic ok hN fun b hb => by rw [List.mem_singleton.mp hb]; exact ⟨hfc, Heap.lt_size atc⟩
  have pg := hg sc (upd H1 D (.lst [])) sc.heap.objs.size (cellsFrom (sc.heap.objs.size + 1) scope.names (cloFrom X.env.cells scope.names [])) [it]
  have pt := ht sc (upd H1 D (.lst [])) sc.heap.objs.size (cellsFrom (sc.heap.objs.size + 1) scope.names (cloFrom X.env.cells scope.names [])) [it]
  have pe := he sc (upd H1 D (.lst [])) sc.heap.objs.size (cellsFrom (sc.heap.objs.size + 1) scope.names (cloFrom X.env.cells scope.names [])) [it]
  show codeAny _ _ (.compStart _ 0 (.ref it) (.ref D) (compEnvC scope (cellsFrom (sc.heap.objs.size + 1) scope.names (cloFrom X.env.cells scope.names [])) sc.heap.objs.size X.env)) (compPost (model X.prog X.w) X.A X.xe use Qf (.ref D) sc.heap.objs.size) { sc with heap := pushCells (sc.heap.push { cls := .type "dict", data := .dict #[] }) scope.names }
  generalize hce : compEnvC scope (cellsFrom (sc.heap.objs.size + 1) scope.names (cloFrom X.env.cells scope.names [])) sc.heap.objs.size X.env = ce at I4 pg pt pe ⊢
  have cL : ce.locals = sc.heap.objs.size := by subst hce; rfl
  generalize hHc : upd H1 D (.lst []) = Hc at Ic I4 pg pt pe w0 hfc
  generalize hs4 : ({ sc with heap := pushCells (sc.heap.push { cls := .type "dict", data := .dict #[] }) scope.names } : Shared) = s4 at I4 ⊢
  have keep4 : ∀ b o, sc.heap.get? b = some o → s4.heap.get? b = some o := fun b o z => by rw [← hs4]; exact pushCells_keeps _ _ _ _ (Heap.get?_push_of_some _ z)
  -- the exception that is handled is pinned in the block, too
  obtain ⟨g1, g2, g3, g4, g5⟩ := Ic.pin p (List.mem_append_left _ hpn)
  have npf : p.1 ∉ frs X.stack := by
    rcases Ic.ok.stk with z | ⟨z, zf⟩
    · rw [z]; exact g4
    · rw [z]
      intro hm
      obtain ⟨e, he', q'⟩ := List.mem_filterMap.mp hm
      rcases List.mem_cons.mp he' with rfl | he'
      · rw [zf] at q'
        exact g3 (Option.some.inj q').symm
      · exact g4 (List.mem_filterMap.mpr ⟨e, he', q'⟩)
  have nit : p.1 ≠ it := hfc.2.2.2.2.2 p (List.mem_append_left _ hpn)
  have I4' : Inv (X.blk sc Hc scope ce [it]) [p] (wipe σ (own.map (·.2))) Hc s4 := { I4 with
    pin := fun r hr => by
      have e : r = p := List.mem_singleton.mp (show r ∈ [p] from hr)
      subst e
      exact ⟨keep4 _ _ g1, g2, by show r.1 ≠ ce.locals; rw [cL]; exact Nat.ne_of_lt (Heap.lt_size g1), npf, g5⟩ }
  have fpOf : ∀ {σ' : L2.St} {H' : Hp} {s' : Shared}, Inv (X.blk sc Hc scope ce [it]) [p] σ' H' s' → H' it = none → FpOk (X.blk sc Hc scope ce [it]) [p] H' it := fun I' hn => by
    have mi : it ∈ [it] := List.mem_singleton.mpr rfl
    exact ⟨hn, (I'.ok.exf it mi).1, I'.ok.exfs it mi, .inl mi, fun x c e => (I'.ok.exf it mi).2 x c e, fun r hr => by
      have e : r = p := List.mem_singleton.mp (show r ∈ [p] from hr)
      rw [e]; exact nit⟩
  have loop : codeAny (model X.prog X.w) X.A (.compLoop (.ListComp elt [⟨tg, .Call (.Name "range" p0) [a] [] p1, ifs, 0⟩] scope pos) 0 (.ref it) (.ref D) ce) (compPost (model X.prog X.w) X.A X.xe use Qf (.ref D) sc.heap.objs.size) s4 := by
    refine compLoop_any (fun m s' => ∃ i H', Inv (X.blk sc Hc scope ce [it]) [p] (wipe σ (own.map (·.2))) H' s' ∧ AtIt it n i s'.heap ∧ H' it = none ∧ W i m H') ?_ m0 ⟨0, Hc, I4', keep4 _ _ atc, hfc.1, w0⟩
    rintro m s5 ⟨i, H5, I5, at5, n5, w5⟩
    obtain ⟨f0, f1, f2, f3, f4, f5⟩ := fpOf I5 n5
    rcases turn i m H5 w5 with ⟨stop, qq⟩ | ⟨go, Nx, hNx, step⟩
    · have hi : n ≤ i := stop
      have hotb : HotX.HotAt X.A p.1 s5.heap := ⟨hnd, p.2, v1, (I5.pin p (List.mem_append_right _ (List.mem_singleton.mpr rfl))).1, dp, cp⟩
      refine HotX.pyNext_range_end_hot hotb at5 (by omega) fun h' eb => ?_
      have I6 : Inv (X.blk sc Hc scope ce [it]) [p] (wipe σ (own.map (·.2))) H5 { s5 with heap := h' } := I5.turned (t' := s5.toks) (fun b o _ e => eb b o e) f0 f1 f3 f4 f5
      have I7 : Inv X pins σ H5 { s5 with heap := h' } := Ic.call' (ch := [it]) I6.os I6.base I6.hok I6.bare fun b hb => by
        rw [List.mem_singleton.mp hb]
        exact ⟨hfc.2.2.2.1, hfc.2.1, hfc.2.2.2.2.1, hfc.2.2.2.2.2⟩
      have nC : H5 sc.heap.objs.size = none := by
        have z : H5 ce.locals = none := I6.free
        rwa [cL] at z
      obtain ⟨mL, hnL, _⟩ := I6.loc
      have hnL : Heap.Ns h' ce.locals mL := hnL
      rw [cL] at hnL
      exact hRR D sc.heap.objs.size { s5 with heap := h' } mL H5 I7 qq hnL (Ic.fpOk (Nat.le_refl _) nC)
    · have hlt : i < n := go
      refine wpAny_pyNext_range_item at5 (by omega) fun h' at' sb' => ?_
      have at6 : AtIt it n (i + 1) h' := by
        have e1 : (0 : Int) + ((i : Nat) : Int) * 1 + 1 = 0 + ((i + 1 : Nat) : Int) * 1 := by omega
        have e2 : (n : Int) - ((i : Nat) : Int) - 1 = (n : Int) - ((i + 1 : Nat) : Int) := by omega
        show IsRangeIter _ _ ((0 : Int) + ((i + 1 : Nat) : Int) * 1) ((n : Int) - ((i + 1 : Nat) : Int)) 1
        rw [← e1, ← e2]
        exact at'
      have I6 : Inv (X.blk sc Hc scope ce [it]) [p] (wipe σ (own.map (·.2))) H5 { s5 with heap := h', toks := s5.toks + 1 } := I5.turned (fun b o hb e => (sb'.2 b hb).trans e) f0 f1 f3 f4 f5
      refine go_of (s := { s5 with heap := h', toks := s5.toks + 1 }) (n := "range_iterator") at6 rfl rfl (by decide) ?_
      have hnc : ∀ b ∈ [it], ∃ o, h'.get? b = some o ∧ ∀ v, o.data ≠ .cell v := fun b hb => by
        rw [List.mem_singleton.mp hb]
        exact ⟨_, at6, fun v z => by
          have z' : Data.fields _ = Data.cell v := z
          cases z'⟩
      have I6' := I6.pinned (fp := [it]) (fun b hb => by rw [List.mem_singleton.mp hb]; exact fpOf I6 n5) hnc
      have rx : RelV (.int (0 + (i : Int))) (.int (0 + ((i : Nat) : Int) * 1) s5.toks) := ⟨s5.toks, by rw [Int.mul_one]⟩
      refine thnF (pg.run _ _ _ H5 (.int (0 + (i : Int))) _ _ I6' rx (step _ H5 ⟨rfl, rfl⟩)) fun _ s8 ⟨σ8, H8, I8, hw8, q8⟩ => ?_
      refine thnF (pt.run _ s8 σ8 H8 _ I8 q8) fun b s9 ⟨H9, I9, q9⟩ => ?_
      have fin : ∀ {s' : Shared} {H' : Hp}, Inv (X.blk sc Hc scope ce [it]) ([p] ++ pinsAt [it] h') σ8 H' s' → Nx H' → ∃ m', m' < m ∧ ∃ i H', Inv (X.blk sc Hc scope ce [it]) [p] (wipe σ (own.map (·.2))) H' s' ∧ AtIt it n i s'.heap ∧ H' it = none ∧ W i m' H' := fun {s' H'} I' nx => by
        obtain ⟨m', hm, w'⟩ := hNx H' nx
        have hp' := I'.pin (it, _) (List.mem_append_right _ (List.mem_append_right _ (mem_pinsAt (List.mem_singleton.mpr rfl) at6)))
        have hl : (wipe σ (own.map (·.2))).length = σ8.length := by rw [← hw8, wipe_length]
        exact ⟨m', hm, i + 1, H', (I'.unpinned (pins := [p])).weak hl (fun j v e => by rw [← hw8] at e; exact (wipe_some e).1), hp'.1, hp'.2.1, w'⟩
      cases b with
      | false =>
        simp only [Bool.false_eq_true, if_false] at q9 ⊢
        exact fin I9 q9
      | true =>
        simp only [if_true] at q9 ⊢
        refine thnF (pe.run _ s9 σ8 H9 _ I9 q9) fun z s10 ⟨yv, H10, I10, r10, acc, hD10, hz10, nx⟩ => ?_
        exact app_ok (X := X.blk sc Hc scope ce [it]) I10 hD10 hz10 r10 fun s11 I11 => fin I11 nx
  exact codeAny_compStart_list loop (wpAny_pyIter_rangeiter (keep4 _ _ atc) loop)
theorem pe_lcH {elt tg a : Expr} {ifs : List Expr} {scope : Scope} {own : List (Str × Nat)} {pos p0 p1 : Pos} {ta : TA} {g : TG} {tt : TT} {te : TE} (hot : HotC X) (hN : X.N.Nodup) (hgr : Gl X "range") (hmr : X.mg "range" = none) (ha : PA X [a] ta) (ok : BlkOk X.N X.env.scope scope own)
    (hg : ∀ (s : Shared) (H : Hp) (C : Addr) (cl : List (Str × Addr)) (fp : List Addr), PG (X.blk s H scope (compEnvC scope cl C X.env) fp) tg g) (ht : ∀ (s : Shared) (H : Hp) (C : Addr) (cl : List (Str × Addr)) (fp : List Addr), PTs (X.blk s H scope (compEnvC scope cl C X.env) fp) ifs tt)
    (he : ∀ (s : Shared) (H : Hp) (C : Addr) (cl : List (Str × Addr)) (fp : List Addr), PE (X.blk s H scope (compEnvC scope cl C X.env) fp) elt te) (hs : ∀ x, foldedSetIterable (.Call (.Name "range" p0) [a] [] p1) X.env x = pure x := by intro _; rfl)
    (hst : starEach [a] X.env = [(false, eval a X.env)] := by rfl) : PE X (.ListComp elt [⟨tg, .Call (.Name "range" p0) [a] [] p1, ifs, 0⟩] scope pos) (tLc (iRng1 ta) g tt te (own.map (·.2))) := by
  refine ⟨fun pins s σ H Q I h => ?_⟩
  rw [eval_ListComp]
  refine lcH_core hot hN I hgr hmr ha ok hg ht he hs hst h fun D C s' m H' I' q hn f => ⟨m, hn, fun h'' sb => ?_⟩
  obtain ⟨e0, e1, e2, e3, e4, e5⟩ := f
  exact ⟨.ref D, H', I'.turned (t' := s'.toks) (fun b o hb e => (sb.2 b hb).trans e) e0 e1 e3 e4 e5, rfl, q⟩
/-- y = [..] on one line -/
theorem ps_setLcH {i : Nat} {y : Str} {py : Pos} {elt tg a : Expr} {ifs : List Expr} {scope : Scope} {own : List (Str × Nat)} {pos spos p0 p1 : Pos} {ta : TA} {g : TG} {tt : TT} {te : TE} (hy : X.N[i]? = some y) (hyl : X.env.scope.names.lookup y = some .local)
    (hsw : swapsWith (.ListComp elt [⟨tg, .Call (.Name "range" p0) [a] [] p1, ifs, 0⟩] scope pos) (some (.Name y py)) spos.line X.env = pure true) (hot : HotC X) (hN : X.N.Nodup) (hgr : Gl X "range") (hmr : X.mg "range" = none) (ha : PA X [a] ta) (ok : BlkOk X.N X.env.scope scope own)
    (hg : ∀ (s : Shared) (H : Hp) (C : Addr) (cl : List (Str × Addr)) (fp : List Addr), PG (X.blk s H scope (compEnvC scope cl C X.env) fp) tg g) (ht : ∀ (s : Shared) (H : Hp) (C : Addr) (cl : List (Str × Addr)) (fp : List Addr), PTs (X.blk s H scope (compEnvC scope cl C X.env) fp) ifs tt)
    (he : ∀ (s : Shared) (H : Hp) (C : Addr) (cl : List (Str × Addr)) (fp : List Addr), PE (X.blk s H scope (compEnvC scope cl C X.env) fp) elt te) (hs : ∀ x, foldedSetIterable (.Call (.Name "range" p0) [a] [] p1) X.env x = pure x := by intro _; rfl)
    (hst : starEach [a] X.env = [(false, eval a X.env)] := by rfl) : PS X (.Assign [.Name y py] (.ListComp elt [⟨tg, .Call (.Name "range" p0) [a] [] p1, ifs, 0⟩] scope pos) spos) (tAsg (tLc (iRng1 ta) g tt te (own.map (·.2))) (gName i)) := by
  refine ⟨fun pins s σ H D I h => ?_⟩
  rw [exec_Assign_Name_used _ _ _ _ hsw]
  refine wpAny_bind (wpAny_standAt (wpAny_bind ?_))
  have h' : tLc (iRng1 ta) g tt te (own.map (·.2)) σ H (fun x H1 => gName i x σ H1 D.nx) := h
  show wpAny _ X.A (do let _ ← comprehension _ scope X.env _ (newList []) false (eval (.Call (.Name "range" p0) [a] [] p1) X.env) (some (assign (.Name y py) X.env))) _ _ s
  refine wpAny_bind (thn (lcH_core (Qf := fun _ s' => SP X pins D .next s') hot hN I hgr hmr ha ok hg ht he hs hst h' fun L C s' m H' I' q hn f => ?_) fun _ s' hq => wpAny_pure (wpAny_pure hq))
  show wpAny _ _ (assign (.Name y py) X.env (.ref L)) _ _ _
  refine wpAny_assign_Name (store_ok2 (v := V.ref L) I' hN hy (.inl hyl) rfl (fun s2 I2 hsb => ?_) (.inr hyl))
  obtain ⟨b, sb, hb⟩ := hsb
  obtain ⟨e0, e1, e2, e3, e4, e5⟩ := f
  have nCb : C ≠ b := by
    rcases hb with z | z
    · exact fun w => e1 (w.trans z)
    · exact fun w => e4 y b z w.symm
  exact ⟨m, hn.sameBut sb nCb, fun h3 sb3 => ⟨_, H', I2.turned (t' := s2.toks) (fun b o hb e => (sb3.2 b hb).trans e) e0 e1 e3 e4 e5, q⟩⟩
end
end DL
namespace DL
open PySem PySem.Spec PyProof.Rows L2 L2H
section
variable {X : Cx} {tg a elt : Expr} {ifs : List Expr} {ta te : RE} {tt : RT} {p0 p1 pos : Pos}
theorem rng1_imp {F : Fx} (σ : L2.St) (H : Hp) (R : It → Hp → Prop) (h : liftI F (irng1 ta) σ H R) : iRng1 (tCons (liftE F ta) tNil) σ H R := by
  obtain ⟨E, ρ, q, env, h, k⟩ := h
  refine ⟨E, ρ, _, env, h, fun d hd v H1 x1 hv => ?_⟩
  split at hd
  · rename_i j
    rw [show v = .int j from hv]
    exact ⟨j, rfl, hd.1.1, hd.1.2, k _ hd.2 _ H1 .non .non x1 rfl fun G _ _ => walk_range 0 j.toNat⟩
  · exact hd.elim
theorem f_lcH {scope : Scope} {own : List (Str × Nat)} {T : Tg} (hot : HotC X) (hN : X.N.Nodup) (hgr : Gl X "range") (hmr : X.mg "range" = none) (ha : ED X a ta) (ok : BlkOk X.N X.env.scope scope own) (hT : ∀ i ∈ T.slots, i ∈ own.map (·.2))
    (hg : ∀ (s : Shared) (H : Hp) (C : Addr) (cl : List (Str × Addr)) (fp : List Addr), GD (X.blk s H scope (compEnvC scope cl C X.env) fp) tg T) (ht : ∀ (s : Shared) (H : Hp) (C : Addr) (cl : List (Str × Addr)) (fp : List Addr), TsD (X.blk s H scope (compEnvC scope cl C X.env) fp) ifs tt)
    (he : ∀ (s : Shared) (H : Hp) (C : Addr) (cl : List (Str × Addr)) (fp : List Addr), ED (X.blk s H scope (compEnvC scope cl C X.env) fp) elt te) (hs : ∀ x, foldedSetIterable (.Call (.Name "range" p0) [a] [] p1) X.env x = pure x := by intro _; rfl)
    (hst : starEach [a] X.env = [(false, eval a X.env)] := by rfl) (hs' : starEach [a] X.env = (false, eval a X.env) :: starEach [] X.env := by rfl) :
    FD X (.ListComp elt [⟨tg, .Call (.Name "range" p0) [a] [] p1, ifs, 0⟩] scope pos) (flc (irng1 ta) (own.map (·.2)) T tt te) := fun F hF =>
  (pe_lcH (g := T.g X.K) (tt := fun σ H Q => ∃ v d, liftT (F.hold v d) tt σ H Q) (te := fun σ H Q => ∃ v d, liftE (F.hold v d) te σ H Q) hot hN hgr hmr (pa_cons (ha F hF) pa_nil hs') ok (fun s H C cl fp => hg s H C cl fp)
    (fun s H C cl fp => ⟨fun pins s' σ H' Q I ⟨v, d, q⟩ => (ht s H C cl fp (F.hold v d) hF).run pins s' σ H' Q I q⟩)
    (fun s H C cl fp => ⟨fun pins s' σ H' Q I ⟨v, d, q⟩ => (he s H C cl fp (F.hold v d) hF).run pins s' σ H' Q I q⟩) hs hst).imp fun σ H Q h => by
  have h1 := lc_ hT σ H Q h
  rw [hF] at h1
  exact rng1_imp σ H _ h1
theorem s_setLcH {i : Nat} {y : Str} {py spos : Pos} {scope : Scope} {own : List (Str × Nat)} {T : Tg} (_hN : X.N.Nodup) (hy : X.N[i]? = some y) (hyl : X.env.scope.names.lookup y = some .local)
    (hsw : swapsWith (.ListComp elt [⟨tg, .Call (.Name "range" p0) [a] [] p1, ifs, 0⟩] scope pos) (some (.Name y py)) spos.line X.env = pure true) (hot : HotC X) (hN : X.N.Nodup) (hgr : Gl X "range") (hmr : X.mg "range" = none) (ha : ED X a ta) (ok : BlkOk X.N X.env.scope scope own) (hT : ∀ i ∈ T.slots, i ∈ own.map (·.2))
    (hg : ∀ (s : Shared) (H : Hp) (C : Addr) (cl : List (Str × Addr)) (fp : List Addr), GD (X.blk s H scope (compEnvC scope cl C X.env) fp) tg T) (ht : ∀ (s : Shared) (H : Hp) (C : Addr) (cl : List (Str × Addr)) (fp : List Addr), TsD (X.blk s H scope (compEnvC scope cl C X.env) fp) ifs tt)
    (he : ∀ (s : Shared) (H : Hp) (C : Addr) (cl : List (Str × Addr)) (fp : List Addr), ED (X.blk s H scope (compEnvC scope cl C X.env) fp) elt te) (hs : ∀ x, foldedSetIterable (.Call (.Name "range" p0) [a] [] p1) X.env x = pure x := by intro _; rfl)
    (hst : starEach [a] X.env = [(false, eval a X.env)] := by rfl) (hs' : starEach [a] X.env = (false, eval a X.env) :: starEach [] X.env := by rfl) :
    SD X (.Assign [.Name y py] (.ListComp elt [⟨tg, .Call (.Name "range" p0) [a] [] p1, ifs, 0⟩] scope pos) spos) (sset i (flst_ (flc (irng1 ta) (own.map (·.2)) T tt te))) := fun F hF =>
  (ps_setLcH (g := T.g X.K) (tt := fun σ H Q => ∃ v d, liftT (F.hold v d) tt σ H Q) (te := fun σ H Q => ∃ v d, liftE (F.hold v d) te σ H Q) hy hyl hsw hot hN hgr hmr (pa_cons (ha F hF) pa_nil hs') ok (fun s H C cl fp => hg s H C cl fp)
    (fun s H C cl fp => ⟨fun pins s' σ H' Q I ⟨v, d, q⟩ => (ht s H C cl fp (F.hold v d) hF).run pins s' σ H' Q I q⟩)
    (fun s H C cl fp => ⟨fun pins s' σ H' Q I ⟨v, d, q⟩ => (he s H C cl fp (F.hold v d) hF).run pins s' σ H' Q I q⟩) hs hst).imp fun D_ σ H => by
  rintro ⟨E, ρ, Z, env, h, sv⟩
  have h1 := lc_ (F := F) (w := irng1 ta) (te := te) hT σ H (fun x H1 => gName i x σ H1 D_.nx) ⟨E, ρ, _, env, h, fun ds hd p xs H1 x1 hp hp' ha => ?_⟩
  · rw [hF] at h1
    exact rng1_imp σ H _ h1
  · refine sv.nx _ hd E _ H1 ((env.step x1).set ?_)
    exact ⟨p, xs, rfl, ⟨env.nE hp, hp'⟩, DnA.less (fun _ => .inl) _ _ ha⟩
/-- a suite is such a context -/
theorem hot_suite {cls : Value} {d : Option Addr} {a : Addr} {oe : Obj} {pn : List (Addr × Obj)} (hz : L2N.Zn cls d oe) (hf : ∃ vs, oe.data = .fields vs) : HotC (X.suite a ((a, oe) :: pn)) := by
  obtain ⟨vs, hd⟩ := hf
  exact ⟨(a, oe), ⟨rfl, vs, hd, hz.2.2 vs hd⟩, List.mem_cons_self ..⟩
end
end DL

set_option Elab.async false
set_option linter.all false
set_option maxRecDepth 100000
set_option maxHeartbeats 4000000
/-! [f, g][i](..) -/
namespace DL
open PySem PySem.Spec PySem.Calls PyProof.Rows L2
section
variable {X : Cx} {W : WX} {idx e : Expr} {es : List Expr} {ti : RE} {tr : RA} {pos p1 p2 p3 p4 : Pos}
def xpick (ti : RE) (tf tg : RXF) (tr : RA) : RXE := fun ρ q ex => ti ρ fun d => match d with
  | .int 0 => tr ρ fun ss => tf ss q ex
  | .int 1 => tr ρ fun ss => tg ss q ex
  | _ => False
theorem xe_pick {kk n m : Nat} {tf tg : RXF} {x y : Str} (Gx : CalX X.prog X.w X.K X.mg X.base x kk n tf) (Gy : CalX X.prog X.w X.K X.mg X.base y kk m tg) (nx : ∀ ss q ex, tf ss q ex → ss.length = n) (ny : ∀ ss q ex, tg ss q ex → ss.length = m) (hr : Room kk X.A) (tk : L2N.Takes X W) (gx : Gl X x) (gy : Gl X y)
    (hi : ED X idx ti) (hix : PlainIx idx) (ha : AD X (e :: es) tr) (dx : (x == ("__debug__" : Str)) = false := by decide) (dy : (y == ("__debug__" : Str)) = false := by decide)
    (h2 : starEach [.Name x p1, .Name y p2] X.env = (false, eval (.Name x p1) X.env) :: starEach [.Name y p2] X.env := by rfl) (h1 : starEach [.Name y p2] X.env = (false, eval (.Name y p2) X.env) :: starEach [] X.env := by rfl)
    (he : starEach (e :: es) X.env = (false, eval e X.env) :: starEach es X.env := by rfl) (hpl : (backTo pos (starEach es X.env)).any (·.1) = false := by rfl) :
    XED X W (.Call (.Subscript (.List [.Name x p1, .Name y p2] p3) idx p4) (e :: es) [] pos) (xpick ti tf tg tr) := fun F hF => by
  obtain ⟨f, fd, ps, rfl, Fx, mx, kx0, bx⟩ := Gx
  obtain ⟨g, gd, qs, rfl, Fy, my, ky0, by_⟩ := Gy
  refine ⟨fun pins s σ H Q I h => ?_⟩
  obtain ⟨E, ρ, q, ex, env, ht, k, kx⟩ := h
  have hfun : PE X (.Subscript (.List [.Name x p1, .Name y p2] p3) idx p4) _ := pe_ix ix_list (pe_lst (pa_cons (pe_glob (v := .ref f) gx mx rfl dx) (pa_cons (pe_glob (v := .ref g) gy my rfl dy) pa_nil h1) h2)) (hi F hF) hix
  have call1 : ∀ {h : Addr} {hd : FuncData} {rs : List Str} {th : RXF} {s1 : Shared} {H1 : Hp}, FnOk X.prog X.w X.K X.mg X.base (L2N.CX X.prog X.w) kk h hd rs (spX X.mg X.K rs.length th) → (∀ ss q ex, th ss q ex → ss.length = rs.length) → PySem.W.keepIn X.K (.ref h) = true → Binds X.K hd rs [] → Inv X pins σ H1 s1 → XExt F H H1 → (tr ρ fun ss => th ss q ex) →
      wpAny (model X.prog X.w) X.A (callWith pos (.ref h) [] (backTo pos (starEach (e :: es) X.env)) []) (EP X pins σ Q) X.xe s1 := by
    intro h hd rs th s1 H1 Fh nh kh bh I1 x1 hth
    have e1 := env.step x1
    refine PySem.W.callWith_K (h₀ := X.base) I1.ok.mod.kin kh (thn ((ha F hF).run pos pins s1 σ H1 (fun vs H2 => spX X.mg X.K rs.length th vs H2 Q (L2.WE W σ)) I1 ⟨E, ρ, _, e1, hth, fun ss hss vs H2 x2 hvs => ?_⟩) fun us s2 ⟨vs, H2, I2, r2, q2⟩ => ⟨I2.kIn, ?_⟩) he hpl
    · have e2 := e1.step x2
      refine ⟨⟨F.K, E, H2, F.src, []⟩, ss, q, ex, hF, rfl, rfl, fun b hb => e2.we hb, e2.live, e2.so, ?_, args_to (F := F) (G := ⟨F.K, E, H2, F.src, []⟩) (E := E) rfl rfl hvs, hss, fun d hd v H' x3 hv => k d hd v H' (x1.trans (x2.trans x3)) hv, fun z hz cls d H' x3 xo => kx z hz cls d H' (x1.trans (x2.trans x3)) xo⟩
      rw [hvs.len]
      exact nh _ _ _ hss
    · exact run_fnS (E := fun σ => L2.WE W σ) Fh hr bh (L2N.passAt tk σ) I2 r2 q2
  show wpAny _ _ (do callWith pos (← eval (.Subscript (.List [.Name x p1, .Name y p2] p3) idx p4) X.env) [] (backTo pos (starEach (e :: es) X.env)) (backToKw pos (keywordEach [] X.env))) _ _ _
  refine wpAny_bind (thn (hfun.run pins s σ H (fun v H1 => XExt F H H1 ∧ ((v = .ref f ∧ tr ρ fun ss => tf ss q ex) ∨ (v = .ref g ∧ tr ρ fun ss => tg ss q ex))) I ?_) fun u s1 ⟨v, H1, I1, rv, x1, hv⟩ => ?_)
  · show _ ∧ _
    refine ⟨(by show 2 ≤ sizeLine; decide), fun p hp => ?_⟩
    have x1 := XExt.new (o := .lst [.ref f, .ref g]) env.so hp
    refine ⟨E, ρ, _, env.step x1, ht, fun d hd v H2 x2 hv => ?_⟩
    have nW : ¬ F.W p := fun w => by
      obtain ⟨o, z⟩ := env.so.live w
      rw [hp] at z; cases z
    have hp2 : H2 p = some (.lst [.ref f, .ref g]) := x2.1 p _ upd_same nW
    split at hd
    · exact ⟨p, _, 0, .ref f, rfl, hv, SqL.of hp2, rfl, x1.trans x2, .inl ⟨rfl, hd⟩⟩
    · exact ⟨p, _, 1, .ref g, rfl, hv, SqL.of hp2, rfl, x1.trans x2, .inr ⟨rfl, hd⟩⟩
    · exact hd.elim
  · rcases hv with ⟨rfl, hth⟩ | ⟨rfl, hth⟩
    · obtain rfl : u = Value.ref f := rv
      exact call1 Fx nx kx0 bx I1 x1 hth
    · obtain rfl : u = Value.ref g := rv
      exact call1 Fy ny ky0 by_ I1 x1 hth
end
end DL

set_option Elab.async false
set_option linter.all false
set_option maxRecDepth 100000
set_option maxHeartbeats 4000000
/-! what the written part says of the exception classes, put together -/
namespace DL
open PySem PySem.Spec PyProof.Rows L2
structure ClsF (K : PySem.W.Frag) (C : Addr) : Prop where
  hb : PySem.W.subIn K (.ref C) (.type "BaseException") = some true
  hd : PySem.W.hasDictIn K C = true
  ht : PySem.W.typeIn K (.ref C) = some (.type "type")
  hs : PySem.W.subIn K (.ref C) (.ref C) = some true
theorem kit_of {K : PySem.W.Frag} {D C : Addr} {b : Bool} (F : ClsF K C) (h : PySem.W.subIn K (.ref D) (.ref C) = some b) : PySem.W.kitOne K (.ref D) (.ref C) = some b := by
  unfold PySem.W.kitOne
  by_cases e : D = C
  · subst e
    rw [F.hs] at h
    rw [if_pos (by simp), h]
  · rw [if_neg (by simpa using e)]
    obtain ⟨cd, hc, _⟩ := PySem.W.any_some F.hd
    show (if ((PySem.W.clsIn K C).isSome && PySem.W.typeIn K (.ref C) == some (.type "type")) = true then PySem.W.subIn K (.ref D) (.ref C) else none) = some b
    rw [hc, F.ht]
    have q : ((some cd).isSome && some (Value.type "type") == some (Value.type "type")) = true := by simp
    rw [if_pos q, h]
def RowT (K : PySem.W.Frag) (mg : Str → Option Value) (c : Str) (D : Addr) (Y : List Str) : Prop := ∀ y ∈ Y, ∃ C, mg y = some (.ref C) ∧ PySem.W.kitOne K (.ref D) (.ref C) = some (isub c y) ∧ PySem.W.exmOne K (.ref D) (.ref C) = some (isub c y)
section
variable {K : PySem.W.Frag} {mg : Str → Option Value} {c y : Str} {C D : Addr} {N Y : List Str} {b : Bool}
theorem row_nil : RowT K mg c D [] := fun _ h => by cases h
theorem row_cons (m : mg y = some (.ref C)) (F : ClsF K C) (s : PySem.W.subIn K (.ref D) (.ref C) = some b) (hb : isub c y = b) (r : RowT K mg c D Y) : RowT K mg c D (y :: Y) := fun z hz => by
  rcases List.mem_cons.mp hz with rfl | hz
  · refine ⟨C, m, ?_, ?_⟩
    · rw [hb]; exact kit_of F s
    · rw [hb]; exact PySem.W.exm_ref F.hb F.hd F.ht s
  · exact r z hz
theorem tab_nil : ExTab K mg [] Y := fun _ h => by cases h
theorem tab_cons (m : mg c = some (.ref D)) (x : XcC K D) (r : RowT K mg c D Y) (t : ExTab K mg N Y) : ExTab K mg (c :: N) Y := fun z hz => by
  rcases List.mem_cons.mp hz with rfl | hz
  · exact ⟨D, m, x, r⟩
  · exact t z hz
end
end DL

set_option Elab.async false
set_option linter.all false
set_option maxRecDepth 100000
set_option maxHeartbeats 4000000
namespace DL
open PySem L2
section
variable {ρ : Rho} {q : D → Prop} {Z : DEnds} {ta tb : RE} {t : RS}
@[simp] theorem x_szip {T} : szip ta tb T t Z ρ = ta ρ fun d => tb ρ fun e => (match d, e with | .lst xs, .tup ys => fordo T t Z (zipD xs ys) ρ | _, _ => False) := rfl
@[simp] theorem x_rMul1 {xs k} {q : D → Prop} : rMul1 (.tup xs) (.int k) q = (xs ≠ [] ∧ 1 ≤ k ∧ k ≤ 1000 ∧ xs.length ≤ 1000 ∧ q (.tup (List.replicate k.toNat xs).flatten)) := rfl
@[simp] theorem x_sforK {j : Nat} {T} : sforK j T t Z ρ = (match ρ[j]? with | some (some (.im (.dct ks _))) => ks.all D.tkey = true ∧ fordo T t Z ks ρ | _ => False) := rfl
@[simp] theorem x_dssetL : dssetL ta ρ q = ta ρ fun d => (match d with | .lst ds => (match intsD ds with | some ns => ns.length < 60 ∧ ∀ ms : List Int, ms.Pairwise (· < ·) → (∀ k, k ∈ ms ↔ k ∈ ns) → q (.lst (ms.map D.int)) | none => False) | _ => False) := rfl
@[simp] theorem x_dlset : dlset ta ρ q = ta ρ fun d => (match d with | .lst ds => (match intsD ds with | some ns => ns.length < 60 ∧ ∀ ms : List Int, ms.Nodup → (∀ k, k ∈ ms ↔ k ∈ ns) → q (.int (ms.length : Nat)) | none => False) | _ => False) := rfl
@[simp] theorem x_drev : drev ta ρ q = ta ρ fun d => (match d with | .lst ds => q (.lst ds.reverse) | _ => False) := rfl
@[simp] theorem x_dtrg : dtrg ta ρ q = ta ρ fun d => (match d with | .int j => (0 ≤ j ∧ j ≤ 16777216) ∧ q (.tup (nums 0 j.toNat)) | _ => False) := rfl
@[simp] theorem x_dssetT : dssetT ta ρ q = ta ρ fun d => (match d with | .lst ds => (match tupsD ds with | some nss => nss.length < 60 ∧ (∀ ns ∈ nss, ns ≠ []) ∧ ∀ ms : List (List Int), ms.Nodup → (∀ x, x ∈ ms ↔ x ∈ nss) → q (.lst ((ms.mergeSort leI).map fun ns => D.tup (ns.map D.int))) | none => False) | _ => False) := rfl
@[simp] theorem x_rMaxL {xs} : rMaxL [.lst xs] q = (match intsD xs with | some ns => 0 < ns.length ∧ ∀ m, m ∈ ns → (∀ y, y ∈ ns → y ≤ m) → q (.int m) | none => False) := rfl
@[simp] theorem x_rLeT {xs ys} : DL.rLeT (.tup xs) (.tup ys) q = (match intsD xs, intsD ys with | some ns, some ms => q (.bl (lexB ns ms)) | _, _ => False) := rfl
@[simp] theorem x_flc2 {w w1 : RL} {vs vs1 : List Nat} {T T1 : Tg} {c c1 : RT} {te : RE} {ql : List D → Prop} : flc2 w vs T c w1 vs1 T1 c1 te ρ ql = w ρ fun ds => lc2do T c w1 vs1 T1 c1 te (wipeR ρ vs) ds [] ql := rfl
@[simp] theorem x_rLtT {xs ys} : DL.rLtT (.tup xs) (.tup ys) q = (match intsD xs, intsD ys with | some ns, some ms => q (.bl (HT.lexLt ns ms)) | _, _ => False) := rfl
@[simp] theorem x_rGeT {xs ys} : DL.rGeT (.tup xs) (.tup ys) q = (match intsD xs, intsD ys with | some ns, some ms => q (.bl (lexG ns ms)) | _, _ => False) := rfl
@[simp] theorem x_rNotInQT {x ds} : DL.rNotInQ x (.tup ds) q = (x.fit = true ∧ (D.tup ds).fit = true ∧ q (.bl (!isIn x ds))) := rfl
@[simp] theorem x_rNotInQL {x ds} : DL.rNotInQ x (.lst ds) q = (x.fit = true ∧ (D.lst ds).fit = true ∧ q (.bl (!isIn x ds))) := rfl
@[simp] theorem x_disi2E {T U} : disi2E T U ta ρ q = ta ρ fun d => d.plainE = true ∧ q (.bl (isaS (tyD d) T || isaS (tyD d) U)) := rfl
@[simp] theorem x_rSortedE {xs} : DL.rSortedE [.lst xs] q = ((D.lst xs).fit = true ∧ PySem.W.AllAlike (xs.map D.py) ∧ EmptyFirst (xs.map D.py) ∧ xs.length ≤ sizeLine ∧ q (.lst (xs.mergeSort (PySem.W.dataLe false D.py)))) := rfl
@[simp] theorem x_iseq {i : Nat} {ql : List D → Prop} : iseq i ρ ql = (match ρ[i]? with | some (some (.im (.lst ds))) => ql ds | some (some (.im (.tup ds))) => ql ds | _ => False) := rfl
@[simp] theorem x_ssti {j : Nat} {ti tv : RE} : ssti j ti tv Z ρ = tv ρ fun d => (match ρ[j]? with | some (some (.ml ds)) => ti ρ fun x => (match x with | .int k => (0 ≤ k ∧ k < ds.length) ∧ Z.nx (ρ.set j (some (.ml (ds.set k.toNat d)))) | _ => False) | _ => False) := rfl
@[simp] theorem x_dcnt {j : Nat} {te : RE} : dcnt j te ρ q = (match ρ[j]? with | some (some (.im (.lst xs))) => te ρ fun d => (match d, intsD xs with | .int k, some ns => q (.int (ns.count k : Nat)) | _, _ => False) | _ => False) := rfl
@[simp] theorem x_rEqE {x} : rEqE x (.tup []) q = ((∃ n, x.fitN n = true) ∧ q (.bl (x.eqv (.tup [])))) := rfl
end
theorem lc2do_nil {T : Tg} {tt : RT} {w1 : RL} {vs1 : List Nat} {T1 : Tg} {tt1 : RT} {te : RE} {ρ : Rho} {acc : List D} {q : List D → Prop} : lc2do T tt w1 vs1 T1 tt1 te ρ [] acc q = q acc := rfl
theorem lc2do_cons {T : Tg} {tt : RT} {w1 : RL} {vs1 : List Nat} {T1 : Tg} {tt1 : RT} {te : RE} {ρ ρ' : Rho} {acc ds : List D} {d : D} {q : List D → Prop} (e : T.put d ρ = some ρ') : lc2do T tt w1 vs1 T1 tt1 te ρ (d :: ds) acc q = tt ρ' fun b => if b = true then w1 ρ' fun es => lcdo T1 tt1 te (wipeR ρ' vs1) es acc fun acc' => lc2do T tt w1 vs1 T1 tt1 te ρ ds acc' q else lc2do T tt w1 vs1 T1 tt1 te ρ ds acc q := by
  conv => lhs; unfold lc2do
  rw [e]
theorem zipD_nil1 {ys : List D} : zipD [] ys = [] := rfl
theorem zipD_cons {x y : D} {xs ys : List D} : zipD (x :: xs) (y :: ys) = .tup [x, y] :: zipD xs ys := rfl
end DL

set_option Elab.async false
set_option linter.all false
set_option maxRecDepth 100000
set_option maxHeartbeats 4000000
/-! readings, one statement at a time -/
namespace DL
open PySem L2
section
variable {Z : DEnds} {ρ ρ' : Rho} {u a b t : RS} {c c' : RT} {te ta tb tk tv : RE} {tl w : RL} {ra : RA} {qa : List Sl → Prop} {d e : D} {q : D → Prop} {i j : Nat} {T : Tg} {tb' : RS} {ds : List D} {tf : RF} {ss : List Sl} {ks vs : List D} {td : RDD}
theorem q_set (h : ∀ qd : D → Prop, qd d → te ρ qd) (hn : u Z (ρ.set i (some (.im d)))) : sseq (sset i te) u Z ρ := h _ hn
theorem q_set1 (h : ∀ qd : D → Prop, qd d → te ρ qd) (hn : Z.nx (ρ.set i (some (.im d)))) : sset i te Z ρ := h _ hn
theorem q_setA (S : D → Prop) (h : ∀ qd : D → Prop, (∀ d, S d → qd d) → te ρ qd) (hn : ∀ d, S d → u Z (ρ.set i (some (.im d)))) : sseq (sset i te) u Z ρ := h _ hn
theorem q_setA1 (S : D → Prop) (h : ∀ qd : D → Prop, (∀ d, S d → qd d) → te ρ qd) (hn : ∀ d, S d → Z.nx (ρ.set i (some (.im d)))) : sset i te Z ρ := h _ hn
theorem q_expr (h : ∀ qd : D → Prop, qd d → te ρ qd) (hn : u Z ρ) : sseq (sexpr te) u Z ρ := h _ hn
theorem q_skip (hc : ∀ qb : Bool → Prop, qb false → c ρ qb) (h : u Z ρ) : sseq (sif c a snext) u Z ρ := hc _ h
theorem q_taken (hc : ∀ qb : Bool → Prop, qb true → c ρ qb) (h : a { Z with nx := u Z } ρ) : sseq (sif c a b) u Z ρ := hc _ h
theorem q_other (hc : ∀ qb : Bool → Prop, qb false → c ρ qb) (h : b { Z with nx := u Z } ρ) : sseq (sif c a b) u Z ρ := hc _ h
theorem q_no (hc : ∀ qb : Bool → Prop, qb false → c ρ qb) (h : b Z ρ) : sif c a b Z ρ := hc _ h
theorem q_yes (hc : ∀ qb : Bool → Prop, qb true → c ρ qb) (h : a Z ρ) : sif c a b Z ρ := hc _ h
theorem q_ret (h : ∀ qd : D → Prop, qd d → te ρ qd) (hn : Z.rt d) : sret te Z ρ := h _ hn
theorem q_unp (h : ∀ qd : D → Prop, qd d → te ρ qd) (e : T.put d ρ = some ρ') (hn : u Z ρ') : sseq (sunp T te) u Z ρ := h _ (by show (match Tg.put T d ρ with | some ρ' => _ | none => False); rw [e]; exact hn)
theorem q_own (h : ∀ ql : List D → Prop, ql ds → tl ρ ql) (hn : u Z (ρ.set i (some (.ml ds)))) : sseq (sown i tl) u Z ρ := h _ hn
theorem q_ownD (h : ∀ q : List D → List D → Prop, q ks vs → td ρ q) (hn : u Z (ρ.set i (some (.md ks vs)))) : sseq (sownD i td) u Z ρ := h _ hn
theorem q_app (h0 : ρ[i]? = some (some (.ml ds))) (h : ∀ qd : D → Prop, qd d → te ρ qd) (hl : ds.length < sizeLine) (hn : u Z (ρ.set i (some (.ml (ds ++ [d]))))) : sseq (sapp i te) u Z ρ := by
  rw [x_sseq, x_sapp, h0]
  exact h _ ⟨hl, hn⟩
theorem q_app1 (h0 : ρ[i]? = some (some (.ml ds))) (h : ∀ qd : D → Prop, qd d → te ρ qd) (hl : ds.length < sizeLine) (hn : Z.nx (ρ.set i (some (.ml (ds ++ [d]))))) : sapp i te Z ρ := by
  rw [x_sapp, h0]
  exact h _ ⟨hl, hn⟩
theorem q_put (hv : ∀ qd : D → Prop, qd e → tv ρ qd) (h0 : ρ[j]? = some (some (.md ks vs))) (hk : ∀ qd : D → Prop, qd d → tk ρ qd) (ok : kok ks d = true) (hl : vs.length = ks.length) (hz : ks.length < sizeLine)
    (hn : u Z (ρ.set j (some (.md (kputK ks d) (kputV ks vs d e))))) : sseq (sput j tk tv) u Z ρ := by
  rw [x_sseq, x_sput]
  refine hv _ ?_
  rw [h0]
  exact hk _ ⟨ok, hl, hz, hn⟩
theorem q_put1 (hv : ∀ qd : D → Prop, qd e → tv ρ qd) (h0 : ρ[j]? = some (some (.md ks vs))) (hk : ∀ qd : D → Prop, qd d → tk ρ qd) (ok : kok ks d = true) (hl : vs.length = ks.length) (hz : ks.length < sizeLine)
    (hn : Z.nx (ρ.set j (some (.md (kputK ks d) (kputV ks vs d e))))) : sput j tk tv Z ρ := by
  rw [x_sput]
  refine hv _ ?_
  rw [h0]
  exact hk _ ⟨ok, hl, hz, hn⟩
theorem q_frz (h0 : ρ[i]? = some (some (.ml ds))) (h : t Z (ρ.set i (some (.im (.lst ds))))) : sfrz i t Z ρ := by
  rw [x_sfrz, h0]
  exact h
theorem q_frzD (h0 : ρ[i]? = some (some (.md ks vs))) (h : t Z (ρ.set i (some (.im (.dct ks vs))))) : sfrz i t Z ρ := by
  rw [x_sfrz, h0]
  exact h
theorem q_frzI (h0 : ρ[i]? = some (some (.im d))) (h : t Z ρ) : sfrz i t Z ρ := by
  rw [x_sfrz, h0]
  exact h
theorem q_for (hw : ∀ ql : List D → Prop, ql ds → w ρ ql) (h : fordo T tb' { Z with nx := u Z } ds ρ) : sseq (sfor w T tb') u Z ρ := hw _ h
theorem q_for1 (hw : ∀ ql : List D → Prop, ql ds → w ρ ql) (h : fordo T tb' Z ds ρ) : sfor w T tb' Z ρ := hw _ h
theorem q_par {s1 s2 : Sl} (h : ∀ qa : List Sl → Prop, qa [s1, s2] → ra ρ qa) (hn : u Z ((ρ.set i (some s1)).set j (some s2))) : sseq (spar i j ra) u Z ρ := h _ hn
theorem q_parA (S : Sl → Sl → Prop) (h : ∀ qa : List Sl → Prop, (∀ s t, S s t → qa [s, t]) → ra ρ qa) (hn : ∀ s t, S s t → u Z ((ρ.set i (some s)).set j (some t))) : sseq (spar i j ra) u Z ρ := h _ hn
theorem q_ac (h : ∀ q : D → Prop, q d → ta ρ q) (hr : ra ρ fun ss => qa (.im d :: ss)) : acons ta ra ρ qa := h _ hr
theorem q_acA (S : D → Prop) (h : ∀ q : D → Prop, (∀ d, S d → q d) → ta ρ q) (hr : ∀ d, S d → ra ρ fun ss => qa (.im d :: ss)) : acons ta ra ρ qa := h _ hr
theorem q_call (h : ∀ qa : List Sl → Prop, qa ss → ra ρ qa) (hf : tf ss q) : dcallf tf ra ρ q := h _ hf
theorem q_var (h0 : ρ[i]? = some (some (.im d))) (h : q d) : dvar i ρ q := by
  rw [x_dvar, h0]
  exact h
theorem q_op {r : R2D} (ha : ∀ q : D → Prop, q d → ta ρ q) (hb : ∀ q : D → Prop, q e → tb ρ q) (h : r d e q) : dop r ta tb ρ q := ha _ (hb _ h)
theorem q_or {qb : Bool → Prop} (h1 : ∀ q : Bool → Prop, q false → c ρ q) (h2 : c' ρ qb) : dor c c' ρ qb := h1 _ h2
theorem q_orT {qb : Bool → Prop} (h1 : ∀ q : Bool → Prop, q true → c ρ q) (h2 : qb true) : dor c c' ρ qb := h1 _ h2
theorem q_and {qb : Bool → Prop} (h1 : ∀ q : Bool → Prop, q true → c ρ q) (h2 : c' ρ qb) : dand c c' ρ qb := h1 _ h2
theorem q_andF {qb : Bool → Prop} (h1 : ∀ q : Bool → Prop, q false → c ρ q) (h2 : qb false) : dand c c' ρ qb := h1 _ h2
/-- a loop over a list of things that are told -/
theorem q_loop {α : Type} (f : α → D) (I : List α → Rho → Prop) (h0 : ∀ ρ, I [] ρ → Z.nx ρ)
    (h1 : ∀ x xs ρ, I (x :: xs) ρ → ∃ ρ', T.put (f x) ρ = some ρ' ∧ ∀ nx : Rho → Prop, (∀ ρ2, I xs ρ2 → nx ρ2) → tb' { Z with nx := nx, ct := nx, bk := Z.nx } ρ') :
    ∀ xs ρ, I xs ρ → fordo T tb' Z (xs.map f) ρ
  | [], ρ, h => h0 ρ h
  | x :: xs, ρ, h => by
    obtain ⟨ρ', e, k⟩ := h1 x xs ρ h
    rw [List.map_cons, fordo_cons, e]
    exact k _ fun ρ2 h2 => q_loop f I h0 h1 xs ρ2 h2
theorem q_lc {α : Type} (e f : α → D) {T : Tg} {te : RE} {ρ : Rho} : ∀ (xs : List α) (acc : List D) (q : List D → Prop),
    (∀ x ∈ xs, ∃ ρ', T.put (e x) ρ = some ρ' ∧ ∀ q' : D → Prop, q' (f x) → te ρ' q') →
    acc.length + xs.length ≤ sizeLine → q (acc ++ xs.map f) → lcdo T dyes te ρ (xs.map e) acc q
  | [], acc, q, _, _, hq => by rw [List.map_nil, lcdo_nil]; simpa using hq
  | x :: xs, acc, q, h, hl, hq => by
    obtain ⟨ρ', e1, k⟩ := h x (List.mem_cons_self ..)
    rw [List.map_cons, lcdo_cons e1, x_dyes, if_pos rfl]
    rw [List.length_cons] at hl
    refine k _ ⟨by omega, q_lc e f xs _ q (fun d hd => h d (List.mem_cons_of_mem _ hd)) ?_ (by simpa using hq)⟩
    rw [List.length_append, List.length_singleton]; omega
theorem q_lcF {α : Type} (e f : α → D) (p : α → Bool) {T : Tg} {tt : RT} {te : RE} {ρ : Rho} : ∀ (xs : List α) (acc : List D) (q : List D → Prop),
    (∀ x ∈ xs, ∃ ρ', T.put (e x) ρ = some ρ' ∧ (∀ q' : Bool → Prop, q' (p x) → tt ρ' q') ∧ (p x = true → ∀ q' : D → Prop, q' (f x) → te ρ' q')) →
    acc.length + xs.length ≤ sizeLine → q (acc ++ (xs.filter p).map f) → lcdo T tt te ρ (xs.map e) acc q
  | [], acc, q, _, _, hq => by rw [List.map_nil, lcdo_nil]; simpa using hq
  | x :: xs, acc, q, h, hl, hq => by
    obtain ⟨ρ', e1, k1, k2⟩ := h x (List.mem_cons_self ..)
    rw [List.map_cons, lcdo_cons e1]
    rw [List.length_cons] at hl
    refine k1 _ ?_
    cases hp : p x with
    | true =>
      rw [if_pos rfl]
      refine k2 hp _ ⟨by omega, q_lcF e f p xs _ q (fun d hd => h d (List.mem_cons_of_mem _ hd)) ?_ ?_⟩
      · rw [List.length_append, List.length_singleton]; omega
      · rw [List.filter_cons_of_pos hp] at hq; simpa using hq
    | false =>
      rw [if_neg Bool.false_ne_true]
      refine q_lcF e f p xs _ q (fun d hd => h d (List.mem_cons_of_mem _ hd)) (by omega) ?_
      rw [List.filter_cons_of_neg (by rw [hp]; exact Bool.false_ne_true)] at hq; exact hq
end
end DL

set_option Elab.async false
set_option linter.all false
set_option maxRecDepth 100000
set_option maxHeartbeats 4000000
namespace DL
open PySem L2
/-! ### readings with exceptions, worked out -/
section
variable {ρ : Rho} {q : D → Prop} {qb : Bool → Prop} {ex : XD → Prop} {Z : XEnds} {ta tb : RE} {tx ty : RXE} {t u : RXS} {rs : RS} {c : RT} {w : RL} {ra : RA}
@[simp] theorem x_xpl : xpl ta ρ q ex = ta ρ q := rfl
@[simp] theorem x_xif : xif c tx ty ρ q ex = c ρ fun b => if b = true then tx ρ q ex else ty ρ q ex := rfl
@[simp] theorem x_xcallf {tf : RXF} : xcallf tf ra ρ q ex = ra ρ fun ss => tf ss q ex := rfl
@[simp] theorem x_xpn : xpn rs Z ρ = rs Z.n ρ := rfl
@[simp] theorem x_xnext : xnext Z ρ = Z.n.nx ρ := rfl
@[simp] theorem x_xseq : xseq t u Z ρ = t ⟨{ Z.n with nx := u Z }, Z.ex⟩ ρ := rfl
@[simp] theorem x_xsif : xsif c t u Z ρ = c ρ fun b => if b = true then t Z ρ else u Z ρ := rfl
@[simp] theorem x_xexpr : xexpr tx Z ρ = tx ρ (fun _ => Z.n.nx ρ) (Z.ex ρ) := rfl
@[simp] theorem x_xret : xret tx Z ρ = tx ρ Z.n.rt (Z.ex ρ) := rfl
@[simp] theorem x_xset {i} : xset i tx Z ρ = tx ρ (fun d => Z.n.nx (ρ.set i (some (.im d)))) (Z.ex ρ) := rfl
@[simp] theorem x_xraise0 {x} : xraise0 x Z ρ = Z.ex ρ ⟨x, []⟩ := rfl
@[simp] theorem x_xraise1 {x f} : xraise1 x f ta Z ρ = ta ρ fun d => Z.ex ρ ⟨x, [(f, d)]⟩ := rfl
@[simp] theorem x_xraise2 {x f g} : xraise2 x f g ta tb Z ρ = ta ρ fun d => tb ρ fun e => Z.ex ρ ⟨x, [(g, e), (f, d)]⟩ := rfl
@[simp] theorem x_xfor {T} : xfor w T t Z ρ = w ρ fun ds => xfordo T t Z ds ρ := rfl
@[simp] theorem x_xpick0 {tf tg : RXF} {e : RE} : xpick e tf tg ra ρ q ex = e ρ fun d => (match d with
  | .int 0 => ra ρ fun ss => tf ss q ex
  | .int 1 => ra ρ fun ss => tg ss q ex
  | _ => False) := rfl
@[simp] theorem x_zfld {c f x} : zfld c f x ρ q = (x.c = c ∧ ∃ e, x.fs.lookup f = some e ∧ q e) := rfl
@[simp] theorem x_zisi {N y x} : zisi N y x ρ q = (x.c ∈ N ∧ q (.bl (isub x.c y))) := rfl
end
@[simp] theorem x_stry {N i tb cl} {Z : DEnds} {ρ : Rho} : stry N i tb cl Z ρ = tb ⟨Z, fun ρ' x => caught N i cl x Z ρ'⟩ ρ := rfl
theorem xsif_no {c : RT} {a b : RXS} {Z : XEnds} {ρ : Rho} (hc : ∀ qb : Bool → Prop, qb false → c ρ qb) (h : b Z ρ) : xsif c a b Z ρ := hc _ h
theorem xsif_yes {c : RT} {a b : RXS} {Z : XEnds} {ρ : Rho} (hc : ∀ qb : Bool → Prop, qb true → c ρ qb) (h : a Z ρ) : xsif c a b Z ρ := hc _ h
theorem xfordo_nil {T : Tg} {tb : RXS} {Z : XEnds} {ρ : Rho} : xfordo T tb Z [] ρ = Z.n.nx ρ := rfl
theorem xfordo_cons {T : Tg} {tb : RXS} {Z : XEnds} {ρ : Rho} {d : D} {ds : List D} : xfordo T tb Z (d :: ds) ρ = (match T.put d ρ with
    | some ρ' => tb ⟨{ Z.n with nx := xfordo T tb Z ds, ct := xfordo T tb Z ds, bk := Z.n.nx }, Z.ex⟩ ρ'
    | none => False) := rfl
theorem xfordo_inv {T : Tg} {tb : RXS} {Z : XEnds} (I : List D → Rho → Prop) (h0 : ∀ ρ, I [] ρ → Z.n.nx ρ)
    (h1 : ∀ d ds ρ, I (d :: ds) ρ → ∃ ρ', T.put d ρ = some ρ' ∧ ∀ nx : Rho → Prop, (∀ ρ2, I ds ρ2 → nx ρ2) → tb ⟨{ Z.n with nx := nx, ct := nx, bk := Z.n.nx }, Z.ex⟩ ρ') :
    ∀ ds ρ, I ds ρ → xfordo T tb Z ds ρ
  | [], ρ, h => h0 ρ h
  | d :: ds, ρ, h => by
    obtain ⟨ρ', e, k⟩ := h1 d ds ρ h
    unfold xfordo
    rw [e]
    exact k _ fun ρ2 h2 => xfordo_inv I h0 h1 ds ρ2 h2
/-- tf at ss gives d, and raises nothing -/
def RetX (tf : RXF) (ss : List Sl) (d : D) : Prop := ∀ (q : D → Prop) (ex : XD → Prop), q d → tf ss q ex
/-- tf at ss raises x, or gives something when there is none -/
def OutX (tf : RXF) (ss : List Sl) (o : Option XD) : Prop := ∀ (q : D → Prop) (ex : XD → Prop), (o = none → ∀ d, q d) → (∀ x, o = some x → ex x) → tf ss q ex
theorem RetX.out {tf : RXF} {ss : List Sl} {d : D} (h : RetX tf ss d) : OutX tf ss none := fun q ex hq _ => h q ex (hq rfl d)
theorem outx {tf : RXF} {ss : List Sl} {x : XD} (h : ∀ (q : D → Prop) (ex : XD → Prop), ex x → tf ss q ex) : OutX tf ss (some x) := fun q ex _ hx => h q ex (hx x rfl)
end DL

set_option Elab.async false
set_option linter.all false
set_option maxRecDepth 100000
set_option maxHeartbeats 4000000
namespace DL
open PySem L2
section
variable {X : Cx} {a b : Expr} {pos : Pos} {tr : RA}
/-- a + b as a new list -/
def fadd (ta tb : RE) : RL := fun ρ q => ta ρ fun x => tb ρ fun y => match x, y with
  | .lst as, .lst bs => as.length + bs.length ≤ sizeLine ∧ q (as ++ bs)
  | _, _ => False
theorem f_add {ta tb : RE} (ha : BD X a ta) (hb : BD X b tb) : FD X (.BinOp a .Add b pos) (fadd ta tb) := fun F hF => by
  refine (pe_op op_cat (ha F hF) (hb F hF)).imp fun σ H Q => ?_
  rintro ⟨E, ρ, q, env, hq, k⟩
  refine ⟨E, ρ, _, env, hq, fun x hx u H1 x1 hu => ?_⟩
  refine ⟨E, ρ, _, env.step x1, hx, fun y hy v H2 x2 hv => ?_⟩
  have a2 := (env.step x1).step x2
  have hu' := hu.ext (env.step x1).at_ x2
  cases x with
  | lst ds =>
    cases y with
    | lst es =>
      obtain ⟨hz, hy⟩ := hy
      obtain ⟨a, xs, rfl, t1, q1⟩ := hu'
      obtain ⟨b, ys, rfl, t2, q2⟩ := hv
      refine ⟨a, b, xs, ys, rfl, rfl, t1.2, t2.2, by rw [q1.len, q2.len]; exact hz, fun p hp => ?_⟩
      exact k _ hy p _ _ (x1.trans (x2.trans (XExt.new a2.so hp))) (XExt.free env (x1.trans x2) hp) upd_same (new_dna a2.at_ hp (q1.app q2))
    | _ => exact (show False from hy).elim
  | _ => exact (show False from hy).elim
@[simp] theorem x_fadd {ta tb : RE} {ρ : Rho} {q : List D → Prop} : fadd ta tb ρ q = ta ρ fun x => tb ρ fun y => (match x, y with
  | .lst as, .lst bs => as.length + bs.length ≤ sizeLine ∧ q (as ++ bs)
  | _, _ => False) := rfl
end
end DL

set_option Elab.async false
set_option linter.all false
set_option maxRecDepth 100000
set_option maxHeartbeats 4000000
/-! an operation on two values in an except suite -/
namespace DL
open PySem PySem.Spec PySem.Calls PyProof.Rows L2 L2H
theorem z_op {i : Nat} {a : Addr} {cls : Value} {d : Option Addr} {X : Cx} {e e2 : Expr} {op : Operator} {pos : Pos} {te te2 : ZE} {r : R2D} (ho : OpD X (binaryOp op) r) (ha : ZED i a cls d X e te) (hb : ZED i a cls d X e2 te2) : ZED i a cls d X (.BinOp e op e2 pos) (fun x => dop r (te x) (te2 x)) := fun F hF => by
  obtain ⟨r', h1, h2⟩ := ho
  exact (pe_op h1 (ha F hF) (hb F hF)).imp fun σ H Q => by
    rintro ⟨E, ρ, q, x, env, xa, h, k⟩
    refine ⟨E, ρ, _, x, env, xa, h, fun y hy v H1 x1 hv => ?_⟩
    have e1 := env.step x1
    refine ⟨E, ρ, _, x, e1, xa.ext (env.fe x1), hy, fun z hz w H2 x2 hw => ?_⟩
    have e2 := e1.step x2
    exact h2 F E H2 y z v w q Q hF e2.at_ (Top.of (fun _ => env.we) (e1.dn x2 hv)) (Top.of (fun _ => env.we) hw) hz fun d hd w H' x3 hw => k d hd w H' (x1.trans (x2.trans x3)) hw
end DL

set_option Elab.async false
set_option linter.all false
set_option maxRecDepth 100000
set_option maxHeartbeats 4000000
/-! x.append([..]) and x[k].append(e) behind it, k the new place -/
namespace DL
open PySem L2 PySem.Spec PyProof.Rows
variable {X : Cx}
theorem DEnv.forget {F : Fx} {E : Addr → Prop} {σ : L2.St} {H : Hp} {ρ : Rho} (e : DEnv F E σ H ρ) (i : Nat) : DEnv F E σ H (ρ.set i none) where
  fr := e.fr
  wb := e.wb
  sub := e.sub
  live := e.live
  so := e.so
  len := by rw [List.length_set]; exact e.len
  hl := e.hl
  sl := fun j s hs => by
    rcases set_get hs with ⟨rfl, es', hl⟩ | ⟨hj, hs'⟩
    · cases es'
    · exact e.sl j s hs'
  inj := fun j k s t w hj hk os ot wj wk => by
    rcases set_get hj with ⟨rfl, es', hl⟩ | ⟨nj, hj'⟩
    · cases es'
    · rcases set_get hk with ⟨rfl, es', hl⟩ | ⟨nk, hk'⟩
      · cases es'
      · exact e.inj j k s t w hj' hk' os ot wj wk
def sapp2 (i : Nat) (k : Int) (tl : RL) (te : RE) (u : RS) : RS := fun Z ρ => match ρ[i]? with
  | some (some (.ml ds)) => tl ρ fun es => ds.length < sizeLine ∧ (ds.length : Int) = k ∧ es.length < sizeLine ∧ te (ρ.set i none) fun d => u Z (ρ.set i (some (.ml (ds ++ [.lst (es ++ [d])]))))
  | _ => False
theorem atI_last {α : Type} (xs : List α) (x : α) : atI (xs ++ [x]) (xs.length : Int) = some x := by
  unfold atI ixN
  rw [List.length_append, List.length_singleton, if_pos (by omega), if_pos (by omega)]
  simp
theorem ss_app2 {i : Nat} {k : Int} {o o2 e1 e2 : Expr} {rest : List Stmt} {tl : RL} {te : RE} {u : RS} {apos cpos pos apos2 cpos2 pos2 spos kpos : Pos} {kj} (ho : PE X o (tVar i)) (ho2 : PE X o2 (tVar i)) (he : FD X e1 tl) (he2 : ED X e2 te) (hrest : SsD X rest u) (hs' : PlainIx (.Constant (.int k) kj kpos))
    (hbase : attributeBase o "append" X.env (eval o X.env) = eval o X.env := by rfl)
    (hfew : ((backTo cpos (starEach (e1 :: []) X.env)).all (fun x => !x.1) && (backToKw cpos (keywordEach [] X.env)).all (fun x => x.1.isSome)
      && decide ((e1 :: []).length + ([] : List Keyword).length + (if ([] : List Keyword).isEmpty then 0 else 1) < 30)) = true := by rfl)
    (hline : (apos.endLine == cpos.line) = true := by rfl) (hs : starEach (e1 :: []) X.env = (false, eval e1 X.env) :: starEach [] X.env := by rfl) (hplain : (backTo cpos (starEach [] X.env)).any (·.1) = false := by rfl)
    (hsw : swapsWith (.Call (.Attribute o "append" apos) [e1] [] cpos) none pos.line X.env = pure false := by rfl)
    (hbase2 : attributeBase (.Subscript o2 (.Constant (.int k) kj kpos) spos) "append" X.env (eval (.Subscript o2 (.Constant (.int k) kj kpos) spos) X.env) = eval (.Subscript o2 (.Constant (.int k) kj kpos) spos) X.env := by rfl)
    (hfew2 : ((backTo cpos2 (starEach (e2 :: []) X.env)).all (fun x => !x.1) && (backToKw cpos2 (keywordEach [] X.env)).all (fun x => x.1.isSome)
      && decide ((e2 :: []).length + ([] : List Keyword).length + (if ([] : List Keyword).isEmpty then 0 else 1) < 30)) = true := by rfl)
    (hline2 : (apos2.endLine == cpos2.line) = true := by rfl) (hs2 : starEach (e2 :: []) X.env = (false, eval e2 X.env) :: starEach [] X.env := by rfl) (hplain2 : (backTo cpos2 (starEach [] X.env)).any (·.1) = false := by rfl)
    (hsw2 : swapsWith (.Call (.Attribute (.Subscript o2 (.Constant (.int k) kj kpos) spos) "append" apos2) [e2] [] cpos2) none pos2.line X.env = pure false := by rfl) :
    SsD X (.Expr (.Call (.Attribute o "append" apos) [e1] [] cpos) pos :: .Expr (.Call (.Attribute (.Subscript o2 (.Constant (.int k) kj kpos) spos) "append" apos2) [e2] [] cpos2) pos2 :: rest) (sapp2 i k tl te u) := fun F hF =>
  (pss_cons (ps_expr (pe_bm PySem.F.plainAttrs_list PySem.F.slot_list_append PySem.F.type_list_append mt_append ho (pa_cons (he F hF) pa_nil hs) hbase hfew hline hs hplain) hsw)
    (pss_cons (ps_expr (pe_bm PySem.F.plainAttrs_list PySem.F.slot_list_append PySem.F.type_list_append mt_append (pe_ix ix_list ho2 pe_int hs') (pa_cons (he2 F hF) pa_nil hs2) hbase2 hfew2 hline2 hs2 hplain2) hsw2) (hrest F hF))).imp fun D_ σ H => by
  rintro ⟨E, ρ, Z, env, h, sv⟩
  unfold sapp2 at h
  split at h
  · rename_i ds hi
    obtain ⟨v, hv, p, xs, ev, hE, hB, h0, hp, ha⟩ := env.sl i _ hi
    subst ev
    have nW : ¬ F.W p := fun w => hB (env.wb p w)
    refine ⟨_, hv, .inl ⟨rfl, xs, SqL.of hp⟩, ?_⟩
    refine ⟨E, ρ, _, env, h, fun es hes q ys H1 x1 hq hq' hy => ?_⟩
    obtain ⟨hl1, hk, hl2, hte⟩ := hes
    have env1 := env.step x1
    have hp1 : H1 p = some (.lst xs) := x1.1 p _ hp nW
    have ha1 := env.dna x1 ha
    have npq : p ≠ q := fun z => by rw [z] at hp; rw [hq] at hp; cases hp
    have nEq : ¬ E q := env.nE hq
    have nWq : ¬ F.W q := fun w => nEq (env.we w)
    refine ⟨p, xs, .ref q, rfl, rfl, hp1, by rw [ha.len]; exact hl1, ?_⟩
    have sh := env.shut x1 hq ⟨_, hq'⟩
    have env2 : DEnv F (plus E q) σ (upd H1 p (.lst (xs ++ [.ref q]))) (ρ.set i none) := (sh.forget i).poke (.inl hE) hB h0 fun j s hs os hv' => by
      rcases set_get hs with ⟨rfl, es', hl⟩ | ⟨nj, hj'⟩
      · cases es'
      · exact nj (env.inj j i _ _ _ hj' hi os rfl hv' hv)
    have hq2 : (upd H1 p (.lst (xs ++ [.ref q]))) q = some (.lst ys) := by rw [upd_ne npq.symm]; exact hq'
    have hp2 : (upd H1 p (.lst (xs ++ [.ref q]))) p = some (.lst (xs ++ [.ref q])) := upd_same
    have hix : atI (xs ++ [V.ref q]) k = some (V.ref q) := by rw [← hk, ← ha.len]; exact atI_last _ _
    refine ⟨_, hv, p, xs ++ [.ref q], k, .ref q, rfl, rfl, SqL.of hp2, hix, .inl ⟨rfl, ys, SqL.of hq2⟩, ?_⟩
    refine ⟨plus E q, _, _, env2, hte, fun d hd w H3 x3 hw => ?_⟩
    have hq3 : H3 q = some (.lst ys) := x3.1 q _ hq2 nWq
    have hp3 : H3 p = some (.lst (xs ++ [.ref q])) := x3.1 p _ hp2 nW
    refine ⟨q, ys, w, rfl, rfl, hq3, by rw [hy.len]; exact hl2, ?_⟩
    let H4 := upd (upd H3 q (.lst (ys ++ [w]))) p (.lst xs)
    have h4p : H4 p = some (.lst xs) := upd_same
    have h4q : H4 q = some (.lst (ys ++ [w])) := by show upd _ _ _ q = _; rw [upd_ne npq.symm]; exact upd_same
    have h4 : ∀ b o, b ≠ p → b ≠ q → H3 b = some o → H4 b = some o := fun b o n1 n2 z => by show upd _ _ _ b = _; rw [upd_ne n1, upd_ne n2]; exact z
    have h13 : ∀ b o, b ≠ p → b ≠ q → ¬ F.W b → H1 b = some o → H4 b = some o := fun b o n1 n2 nw z => h4 b o n1 n2 (x3.1 b o (by rw [upd_ne n1]; exact z) nw)
    have x4 : XExt F H H4 := by
      refine ⟨fun b o z w => ?_, x3.2.of fun b o w z => h4 b o (fun e => nW (e ▸ w)) (fun e => nWq (e ▸ w)) z⟩
      by_cases e : b = p
      · subst e
        rw [hp] at z; cases z
        exact h4p
      · have e' : b ≠ q := fun e => by rw [e, hq] at z; cases z
        exact h13 b o e e' w (x1.1 b o z w)
    have env4 := env.step x4
    have f14 : FExt (plus E q) H1 H4 := fun b o z nb => h13 b o (fun e => nb (.inl (e ▸ hE))) (fun e => nb (.inr e)) (fun w => nb (.inl (env.we w))) z
    have f34 : FExt (plus E q) H3 H4 := fun b o z nb => h4 b o (fun e => nb (.inl (e ▸ hE))) (fun e => nb (.inr e)) z
    have less : ∀ b, E b → plus E q b := fun b z => .inl z
    have hin : DnA F.K E H4 (es ++ [d]) (ys ++ [w]) := DnA.less less _ _ ((DnA.ext f14 _ _ hy).app (DnA.one (Dn.ext f34 _ _ hw)))
    have hall : DnA F.K E H4 (ds ++ [.lst (es ++ [d])]) (xs ++ [.ref q]) := (env.dna x4 ha).app (DnA.one ⟨q, _, rfl, ⟨nEq, h4q⟩, hin⟩)
    have env5 := env4.write hi hv hall
    have eH : upd H4 p (.lst (xs ++ [.ref q])) = upd H3 q (.lst (ys ++ [w])) := by
      funext b
      by_cases e : b = p
      · subst e
        rw [upd_same, upd_ne npq]
        exact hp3.symm
      · rw [upd_ne e]
        show upd _ _ _ b = _
        rw [upd_ne e]
    rw [eH] at env5
    exact ⟨E, _, Z, env5, hd, sv⟩
  · exact h.elim
@[simp] theorem x_sapp2 {i : Nat} {k : Int} {tl : RL} {te : RE} {u : RS} {Z : DEnds} {ρ : Rho} : sapp2 i k tl te u Z ρ = (match ρ[i]? with
  | some (some (.ml ds)) => tl ρ fun es => ds.length < sizeLine ∧ (ds.length : Int) = k ∧ es.length < sizeLine ∧ te (ρ.set i none) fun d => u Z (ρ.set i (some (.ml (ds ++ [.lst (es ++ [d])]))))
  | _ => False) := rfl
/-! x, y[k] = e, e one pair, y an own list -/
def spaS (i j k : Nat) (te : RE) : RS := fun Z ρ => te ρ fun d => match d with
  | .tup [a, b] => (match (ρ.set i (some (.im a)))[j]? with
    | some (some (.ml ds)) => k < ds.length ∧ Z.nx ((ρ.set i (some (.im a))).set j (some (.ml (ds.set k b))))
    | _ => False)
  | _ => False
theorem s_paS {i j k : Nat} {x : Str} {o e : Expr} {te : RE} {kj kt} {px spos kpos tpos pos : Pos} (hc : X.calm = true) (hN : X.N.Nodup) (hi : X.N[i]? = some x) (hx : Loc X.env.scope x) (ho : PE X o (tVar j)) (he : ED X e te)
    (ha : ∀ v, assign (.Subscript o (.Constant (.int (k : Int)) kj kpos) spos) X.env v = (do
      let ov ← holding [v] (eval o X.env)
      let iv ← holding [v, ov] (eval (.Constant (.int (k : Int)) kj kpos) X.env)
      standAt spos
      holding [v, ov, iv] (setItem ov iv v)
      release [v, ov, iv] []) := by intro _; rfl)
    (hs0 : (assignEach [.Name x px, .Subscript o (.Constant (.int (k : Int)) kj kpos) spos] X.env).map (·.2) = assign (.Name x px) X.env :: (assignEach [.Subscript o (.Constant (.int (k : Int)) kj kpos) spos] X.env).map (·.2) := by rfl)
    (hs1 : (assignEach [.Subscript o (.Constant (.int (k : Int)) kj kpos) spos] X.env).map (·.2) = assign (.Subscript o (.Constant (.int (k : Int)) kj kpos) spos) X.env :: (assignEach [] X.env).map (·.2) := by rfl)
    (hn : (assignEach [.Name x px, .Subscript o (.Constant (.int (k : Int)) kj kpos) spos] X.env).length = 2 := by rfl) (hst : (assignEach [.Name x px, .Subscript o (.Constant (.int (k : Int)) kj kpos) spos] X.env).findIdx? (·.1) = none := by rfl)
    (hs : swapsWithSole [.Tuple [.Name x px, .Subscript o (.Constant (.int (k : Int)) kj kpos) spos] kt tpos] e pos.line X.env = pure false := by rfl) (hw : swappedStores [.Tuple [.Name x px, .Subscript o (.Constant (.int (k : Int)) kj kpos) spos] kt tpos] e X.env = pure none := by rfl)
    (h1 : (assignEach [.Tuple [.Name x px, .Subscript o (.Constant (.int (k : Int)) kj kpos) spos] kt tpos] X.env).map (·.2) = [assign (.Tuple [.Name x px, .Subscript o (.Constant (.int (k : Int)) kj kpos) spos] kt tpos) X.env] := by rfl)
    (hf : X.fn x = true ∨ X.env.scope.names.lookup x = some .local := by first | exact .inl rfl | exact .inr rfl | assumption) :
    SD X (.Assign [.Tuple [.Name x px, .Subscript o (.Constant (.int (k : Int)) kj kpos) spos] kt tpos] e pos) (spaS i j k te) := fun F hF =>
  (ps_asg (he F hF) (pg_tup hc (pgs_cons (pg_name hN hi hx hf) (pgs_cons (pg_sub ho pe_int set_list ha) pgs_nil hs1) hs0) hn hst) hs hw h1).imp fun D_ σ H => by
  rintro ⟨E, ρ, Z, env, h, sv⟩
  refine ⟨E, ρ, _, env, h, fun d hd v H1 x1 hv => ?_⟩
  have e1 := env.step x1
  split at hd
  · rename_i a b
    obtain ⟨t, xs, rfl, tt, ga⟩ := hv
    obtain ⟨u1, r1, rfl, g1, g2⟩ := ga
    obtain ⟨u2, r2, rfl, g3, g4⟩ := g2
    have er2 : r2 = [] := g4
    subst er2
    have e2 := e1.set (i := i) g1
    split at hd
    · rename_i ds hj
      obtain ⟨hk, hnx⟩ := hd
      refine ⟨t, [u1, u2], rfl, by rw [← hF]; exact tt.sq, rfl, u1, [u2], rfl, u2, [], rfl, ?_⟩
      obtain ⟨v', hv', p, ys, ev, hE, hB, h0, hp, ha'⟩ := e2.sl j _ hj
      subst ev
      refine ⟨_, hv', p, ys, k, k, rfl, rfl, hp, ?_, ?_⟩
      · unfold ixN
        have := ha'.len
        rw [if_pos (by omega), if_pos (by omega)]
        simp
      · exact ⟨rfl, sv.nx _ hnx E _ _ (e2.write hj hv' (ha'.set k g3))⟩
    · exact hd.elim
  · exact hd.elim
@[simp] theorem x_spaS {i j k : Nat} {te : RE} {Z : DEnds} {ρ : Rho} : spaS i j k te Z ρ = te ρ fun d => (match d with
  | .tup [a, b] => (match (ρ.set i (some (.im a)))[j]? with
    | some (some (.ml ds)) => k < ds.length ∧ Z.nx ((ρ.set i (some (.im a))).set j (some (.ml (ds.set k b))))
    | _ => False)
  | _ => False) := rfl
/-! one statement at a time -/
theorem xq_expr {tx : RXE} {u : RXS} {Z : XEnds} {ρ : Rho} {d : D} (h : ∀ (q : D → Prop), q d → tx ρ q (Z.ex ρ)) (hn : u Z ρ) : xseq (xexpr tx) u Z ρ := h _ hn
theorem xq_skip {c : RT} {a u : RXS} {Z : XEnds} {ρ : Rho} (hc : ∀ qb : Bool → Prop, qb false → c ρ qb) (h : u Z ρ) : xseq (xsif c a xnext) u Z ρ := hc _ h
theorem xq_no {c : RT} {a b : RXS} {Z : XEnds} {ρ : Rho} (hc : ∀ qb : Bool → Prop, qb false → c ρ qb) (h : b Z ρ) : xsif c a b Z ρ := hc _ h
theorem xq_call {tf : RXF} {ra : RA} {ρ : Rho} {q : D → Prop} {ex : XD → Prop} {ss : List Sl} (h : ∀ qa : List Sl → Prop, qa ss → ra ρ qa) (hf : tf ss q ex) : xcallf tf ra ρ q ex := h _ hf
theorem xq_out {tf : RXF} {ra : RA} {u : RXS} {Z : XEnds} {ρ : Rho} {o : Option XD} {ss : List Sl} (ho : OutX tf ss o) (h : ∀ qa : List Sl → Prop, qa ss → ra ρ qa) (hn : o = none → u Z ρ) (hx : ∀ x, o = some x → Z.ex ρ x) : xseq (xexpr (xcallf tf ra)) u Z ρ := h _ (ho _ _ (fun e _ => hn e) hx)
theorem xq_out1 {tf : RXF} {ra : RA} {Z : XEnds} {ρ : Rho} {o : Option XD} {ss : List Sl} (ho : OutX tf ss o) (h : ∀ qa : List Sl → Prop, qa ss → ra ρ qa) (hn : o = none → Z.n.nx ρ) (hx : ∀ x, o = some x → Z.ex ρ x) : xexpr (xcallf tf ra) Z ρ := h _ (ho _ _ (fun e _ => hn e) hx)
theorem xq_raise0 {c : RT} {n : Str} {b : RXS} {u : RXS} {Z : XEnds} {ρ : Rho} (hc : ∀ qb : Bool → Prop, qb true → c ρ qb) (h : Z.ex ρ ⟨n, []⟩) : xseq (xsif c (xraise0 n) b) u Z ρ := hc _ h
theorem xq_raise01 {c : RT} {n : Str} {b : RXS} {Z : XEnds} {ρ : Rho} (hc : ∀ qb : Bool → Prop, qb true → c ρ qb) (h : Z.ex ρ ⟨n, []⟩) : xsif c (xraise0 n) b Z ρ := hc _ h
end DL

set_option Elab.async false
set_option linter.all false
set_option maxRecDepth 100000
set_option maxHeartbeats 4000000
/-! enumerate(list, k) -/
namespace DL
open PySem L2 PyProof.Rows
/-- the list at a, each item in a new pair with its number from k on -/
def ItEL (K : PySem.W.Frag) (k : Int) (a : Addr) : It :=
  ⟨fun i H => ∃ (xs : List V) (x : V), SqL K H a xs ∧ xs[i]? = some x, fun i H v H' => ∃ T x, v = .ref T ∧ H T = none ∧ H' = upd H T (.tup [.int (k + (i : Nat)), x]) ∧ ∀ xs, SqL K H a xs → xs[i]? = some x, fun i H => ∃ xs : List V, SqL K H a xs ∧ xs.length ≤ i⟩
theorem turn_enumL {P : Program} {w : World} {K : PySem.W.Frag} {elts : List Expr} {kk : Nat} {tpos : Pos} (k : Int) (a e it : Addr) :
    Turn P w K (.Tuple elts kk tpos) (ItEL K k a) [e, it] e (fun i h => (∃ old, IsEnum h e it (k + (i : Nat)) old) ∧ h.IsListIter it a i ∧ e ≠ it) where
  mem := by simp
  obj := fun i h st b hb => by
    obtain ⟨⟨old, he⟩, ⟨o, ho, hc, hd⟩, _⟩ := st
    have e' : b = e ∨ b = it := by simpa using hb
    rcases e' with z | z
    · rw [z]; exact ⟨_, he, fun v q => nomatch q⟩
    · rw [z]; exact ⟨o, ho, fun v q => by rw [hd] at q; cases q⟩
  keep := fun i h h' st k => let ⟨⟨old, he⟩, hi, hne⟩ := st; ⟨⟨old, k e (by simp) _ he⟩, hi.at fun o q => k it (by simp) o q, hne⟩
  item := by
    intro X hP hw hK hc i pins s σ H E I hf st hg
    subst hP hw hK
    obtain ⟨⟨old, he⟩, hit, hne⟩ := st
    obtain ⟨xs, x, hq, hx⟩ := hg
    obtain ⟨its, rv, p, hz⟩ := I.list hq
    obtain ⟨u, hu, ru⟩ := rv.get hx
    have pl := p.isList
    have hel : e < s.heap.objs.size := Heap.lt_size he
    have hil : it < s.heap.objs.size := by obtain ⟨_, q, _⟩ := hit; exact Heap.lt_size q
    have hti : a ≠ it := fun z => by
      obtain ⟨o, q, _, d⟩ := hit
      obtain ⟨o', q', _, n, d'⟩ := pl
      rw [z, q] at q'; cases q'; rw [d] at d'; cases d'
    have hei : e ∉ ([it, a] : List Addr) := fun z => by
      have z' : e = it ∨ e = a := by simpa using z
      rcases z' with z' | z'
      · exact hne z'
      · obtain ⟨o', q', _, n, d'⟩ := pl
        have he' : s.heap.get? e = _ := he
        rw [z', q'] at he'; cases he'; cases d'
    have hin : i < its.toArray.size := by
      have := (List.getElem?_eq_some_iff.mp hu).1
      simpa using this
    refine wpAny_pyNext_enum_itemC (Draws.list (A := X.A.in1) (show X.A.in1.handled = none from I.ok.hd hc) it a hti its.toArray) he ⟨hit, pl⟩ hin hne hei fun x' h' tk hx' ho hit' hT hsz hk => ?_
    have ex : x' = u := by
      have h1 : its.toArray[i]? = some u := by simpa using hu
      rw [h1] at hx'
      exact (Option.some.inj hx').symm
    subst ex
    refine ⟨_, rfl, wpAny_letOwnedTupleGo_enum (s := { s with heap := h', toks := tk + 1 }) ho fun h'' he' sb => ?_⟩
    have hT2 : h''.get? s.heap.objs.size = some { cls := .type "tuple", data := .seq #[.int (k + (i : Nat)) tk, x'] } := (sb.2 _ (Nat.ne_of_gt hel)).trans hT
    have new : ObjOk X.prog X.w (upd H s.heap.objs.size (.tup [.int (k + (i : Nat)), x])) h'' s.heap.objs.size (.tup [.int (k + (i : Nat)), x]) :=
      ⟨by show 2 ≤ sizeLine; decide, [.int (k + (i : Nat)) tk, x'], .cons ⟨_, rfl⟩ (.cons ru .nil), ⟨_, hT2, rfl, _, rfl⟩⟩
    have I1 : Inv X pins σ (upd H s.heap.objs.size (.tup [.int (k + (i : Nat)), x])) { s with heap := h'', toks := tk + 1 } :=
      I.turnedNew (ch := [e, it]) (fun b ob hb q => (sb.2 b (fun z => hb (by simp [z]))).trans (hk b ob (fun z => hb (by simp [z])) (fun z => hb (by simp [z])) q)) hf (Nat.le_refl _) new
    refine ⟨.ref s.heap.objs.size, _, I1, rfl, ⟨_, x, rfl, I.hok.fresh (Nat.le_refl _), rfl, fun ys hy => by rw [I.list_inj hy hq]; exact hx⟩, ⟨⟨x', ?_⟩, hit'.1.at fun o q => (sb.2 it (Ne.symm hne)).trans q, hne⟩, fun b hb => ?_⟩
    · have e1 : k + ((i + 1 : Nat) : Int) = k + (i : Int) + 1 := by omega
      rw [e1]; exact he'
    · have hb' : b < s.heap.objs.size := by
        have e' : b = e ∨ b = it := by simpa using hb
        rcases e' with z | z
        · rw [z]; exact hel
        · rw [z]; exact hil
      rw [upd_ne (Nat.ne_of_lt hb')]
      exact (hf b hb).1
  done := by
    intro X hP hw hK hc i pins s σ H E I hf st hg
    subst hP hw hK
    obtain ⟨⟨old, he⟩, hit, hne⟩ := st
    obtain ⟨xs, hq, hx⟩ := hg
    obtain ⟨its, rv, p, hz⟩ := I.list hq
    obtain ⟨f0, f1, f2, f3, f4, f5⟩ := hf it (by simp)
    have hl := rv.length
    have hT : s.TypeIs (.ref e) "enumerate" := ⟨_, he, rfl⟩
    unfold pyNext
    refine wpAny_bind (wpAny_attempt (wpAny_callSpecial?_slot (name := Str.ofString "__next__") hT F.slot_enumerate_next
      (wpAny_call_entry F.slot_enumerate_next hT F.entry_enumerate_next ?_ (F.args_enumerate_next_1 _))))
    show wpAny _ _ (field (.ref e) 2 >>= _) _ _ _
    refine wpAny_bind (wpAny_field he rfl (x := .ref it) rfl ?_)
    refine wpAny_bind (wpAny_nextOf_list_end (show X.A.in1.handled = none from I.ok.hd hc) hit p.isList (by simp; omega) fun h' x he' hx' => ?_)
    obtain ⟨o, ho, hcl⟩ := hx'
    refine wpAny_bind (wpAny_isInstance (T := "StopIteration") (b := true) ⟨o, ho, hcl⟩ isSubtype_stop ?_)
    exact wpAny_pure ⟨rfl, I.turned (t' := s.toks) (fun b o hb q => he' b o hb q) f0 f1 f3 f4 f5⟩
  self := fun A i s Q E st h => let ⟨⟨_, he⟩, _⟩ := st; wpAny_pyIter_enum he h
def iEnumL (K : PySem.W.Frag) (k : Int) (ta : TA) : TI := fun σ H R => ta σ H fun vs H1 => ∃ a xs, vs = [.ref a, .int k] ∧ SqL K H1 a xs ∧ R (ItEL K k a) H1
theorem pi_enumL {X : Cx} {e c : Expr} {ta : TA} {p pos tpos : Pos} {elts : List Expr} {kk : Nat} {k : Int} (k0 : 0 ≤ k) (k1 : k < 1000) (hg : Gl X "enumerate") (hm : X.mg "enumerate" = none) (ha : PA X [e, c] ta) (hs : starEach [e, c] X.env = (false, eval e X.env) :: starEach [c] X.env := by rfl) (hp : (backTo pos (starEach [c] X.env)).any (·.1) = false := by rfl) :
    PI X (.Tuple elts kk tpos) (.Call (.Name "enumerate" p) [e, c] [] pos) (iEnumL X.K k ta) := by
  refine ⟨fun pins s σ H R I h => ?_⟩
  refine Call_ (ld_blt I hg hm boot_enumerate (PyProof.Rows.callWith_type1 (thn (ha.run pos pins s σ H _ I h) fun us s1 ⟨vs, H1, I1, r1, q1⟩ => ?_) hs hp))
  obtain ⟨a, xs, ex, hq, q⟩ := q1
  subst ex
  cases r1 with
  | cons r rr =>
    cases rr with
    | cons rk rr =>
      cases rr
      cases r
      obtain ⟨tk, rfl⟩ := rk
      obtain ⟨its, rv, p', hz⟩ := I1.list hq
      refine enum_begins (begins_list a its.toArray) p'.isList (by omega) (by omega) fun h' he hit hsz hk => wpAny_pyIter_enum he ?_
      have I2 : Inv X pins σ H1 { s1 with heap := h' } := I1.kept (t' := s1.toks) hk
      refine ⟨s1.heap.objs.size + 1, [s1.heap.objs.size + 1, s1.heap.objs.size], _, _, H1, rfl, I2, turn_enumL k a (s1.heap.objs.size + 1) s1.heap.objs.size, ⟨⟨.none, by rw [show k + ((0 : Nat) : Int) = k by omega]; exact he⟩, ⟨_, hit, rfl, rfl⟩, Nat.succ_ne_self _⟩, fun b hb => ?_, q⟩
      have e' : b = s1.heap.objs.size + 1 ∨ b = s1.heap.objs.size := by simpa using hb
      have hle : s1.heap.objs.size ≤ b := by
        rcases e' with z | z
        · rw [z]; exact Nat.le_add_right _ _
        · rw [z]; exact Nat.le_refl _
      exact I1.fpOk hle (I1.hok.fresh hle)
def ienumL (k : Int) (t : RE) : RL := fun ρ q => t ρ fun d => match d with
  | .lst ds => q (pairs k ds)
  | _ => False
theorem i_enumL {X : Cx} {e : Expr} {ta : RE} {p pos tpos kpos : Pos} {elts : List Expr} {kk j : Nat} {k : Int} (k0 : 0 ≤ k) (k1 : k < 1000) (hg : Gl X "enumerate") (hm : X.mg "enumerate" = none) (ha : ED X e ta)
    (hs : starEach [e, .Constant (.int k) j kpos] X.env = (false, eval e X.env) :: starEach [.Constant (.int k) j kpos] X.env := by rfl) (hs2 : starEach [.Constant (.int k) j kpos] X.env = (false, eval (.Constant (.int k) j kpos) X.env) :: starEach [] X.env := by rfl)
    (hp : (backTo pos (starEach [.Constant (.int k) j kpos] X.env)).any (·.1) = false := by rfl) : ID X (.Tuple elts kk tpos) (.Call (.Name "enumerate" p) [e, .Constant (.int k) j kpos] [] pos) (ienumL k ta) := fun F hF =>
  (pi_enumL k0 k1 hg hm (pa_cons (ha F hF) (pa_cons pe_int pa_nil hs2) hs) hs hp).imp fun σ H R => by
  rintro ⟨E, ρ, q, env, h, kq⟩
  refine ⟨E, ρ, _, env, h, fun d hd v H1 x1 hv => ?_⟩
  split at hd
  · rename_i ds
    obtain ⟨a, xs, rfl, l, g⟩ := id hv
    refine ⟨a, xs, rfl, l.sq, kq _ hd _ H1 _ (.lst ds) x1 hv fun G hK hS E' H' at_ hv' => ?_⟩
    obtain ⟨a', ys, e', l', g'⟩ := hv'
    cases e'
    have sq : SqL X.K H' a ys := l'.sq
    refine ⟨fun i d hi => ?_, fun i hi => ⟨ys, sq, by rw [g'.len]; rw [pairs_len] at hi; exact hi⟩⟩
    obtain ⟨e, he, rfl⟩ := pairs_get hi
    obtain ⟨x, hx, dx⟩ := g'.get he
    refine ⟨⟨ys, x, sq, hx⟩, fun y H2 hy => ?_⟩
    obtain ⟨T, x', rfl, hT, rfl, hy⟩ := hy
    have := hy ys sq
    rw [hx] at this; cases this
    refine ⟨fun b o q => by rw [upd_ne (ne_of_none q hT)]; exact q, ?_⟩
    exact at_.tup hT ⟨_, _, rfl, rfl, _, _, rfl, dx, rfl⟩
  · exact hd.elim
@[simp] theorem x_ienumL {k : Int} {ta : RE} {ρ : Rho} {ql : List D → Prop} : ienumL k ta ρ ql = ta ρ fun d => (match d with | .lst ds => ql (pairs k ds) | _ => False) := rfl
end DL

set_option Elab.async false
set_option linter.all false
set_option maxRecDepth 100000
set_option maxHeartbeats 4000000
/-! {k: v}, k an int or a text; max, min of a tuple of ints -/
namespace DL
open PySem L2 PySem.Spec PyProof.Rows
section
variable {X : Cx} {a b : Expr} {ta tb : RE} {pos : Pos}
def fdispK (tk tv : RE) : RDD := fun ρ q => tk ρ fun x => tv ρ fun y => x.kk.isSome = true ∧ q [x] [y]
theorem fd_dispK (ha : ED X a ta) (hb : ED X b tb) : FDD X (.Dict [some a] [b] pos) (fdispK ta tb) := fun F hF => (pe_disp (pps_cons (ha F hF) (hb F hF) pps_nil) rfl rfl (by simp) (by simp)).imp fun σ H Q => by
  rintro ⟨E, ρ, q, env, h, k⟩
  intro p hp
  have e0 := env.shut (XExt.new (o := .dK []) env.so hp) hp ⟨_, upd_same⟩
  refine ⟨plus E p, ρ, _, e0, h, fun x hx y H1 x1 hy => ?_⟩
  have e1 := e0.step x1
  refine ⟨plus E p, ρ, _, e1, hx, fun z hz w H2 x2 hw => ?_⟩
  have e2 := e1.step x2
  have nE : ¬ E p := env.nE hp
  have nW : ¬ F.W p := fun w => nE (env.we w)
  have hp2 : H2 p = some (.dK []) := x2.1 p _ (x1.1 p _ upd_same nW) nW
  have hy2 := e1.dn x2 hy
  obtain ⟨kx, hkx⟩ := Option.isSome_iff_exists.mp hz.1
  have ey : y = kV kx := kk_of (X := X) (hF ▸ hy2) hkx
  refine ⟨hp2, [(kx, w)], by rw [ey]; rfl, by simp, ?_⟩
  have xx : XExt F H (upd H2 p (.dK [(kx, w)])) := by
    refine ⟨fun b o q w => ?_, e2.so.of fun b o w q => by rw [upd_ne (fun z : b = p => nW (z ▸ w))]; exact q⟩
    have nb : b ≠ p := fun z => by rw [z, hp] at q; cases q
    rw [upd_ne nb]
    exact x2.1 b o (x1.1 b o (by rw [upd_ne nb]; exact q) w) w
  have fe : FExt (plus E p) H2 (upd H2 p (.dK [(kx, w)])) := fun b o q hb => by rw [upd_ne (fun z : b = p => hb (.inr z))]; exact q
  exact k _ _ hz.2 p _ xx hp ⟨[y], [w], .inl ⟨[(kx, w)], upd_same, by rw [ey]; rfl, rfl, by simp⟩, DnA.one (Dn.ext fe _ _ hy2), DnA.one (Dn.ext fe _ _ hw)⟩
@[simp] theorem x_fdispK {ρ : Rho} {q : List D → List D → Prop} : fdispK ta tb ρ q = ta ρ fun x => tb ρ fun y => x.kk.isSome = true ∧ q [x] [y] := rfl
end
section
variable {prog : Program} {w : World} {A : Around} {E : Value → Shared → Prop} {s : Shared} {l : Addr} {its : List Value} {ns : List Int} {Q : Value → Shared → Prop}
theorem tup_live {xs : Array (Int × Tok)} (hl : s.heap.IsTuple l (intItems xs)) : ∀ b ∈ [s.heap.objs.size, l], b < (s.heap.push { cls := .type "tuple_iterator", data := .fields #[.ref l, .int 0 0] }).objs.size := fun b hb => by
  rw [Heap.size_push]
  have e' : b = s.heap.objs.size ∨ b = l := by simpa using hb
  rcases e' with rfl | rfl
  · exact Nat.lt_succ_self _
  · obtain ⟨_, q, _⟩ := hl
    exact Nat.lt_succ_of_lt (Heap.lt_size q)
theorem tup_kept {h' : Heap} (hk : ∀ b o, b ∉ [s.heap.objs.size] → (s.heap.push { cls := .type "tuple_iterator", data := .fields #[.ref l, .int 0 0] }).get? b = some o → h'.get? b = some o) : ∀ b o, s.heap.get? b = some o → h'.get? b = some o := fun b o e =>
  hk b o (fun z => Nat.ne_of_lt (Heap.lt_size e) (by simpa using z)) (Heap.get?_push_of_some _ e)
theorem max_rawT (hh : A.handled = none) (hl : s.heap.IsTuple l its.toArray) (hi : IntsAre its ns) (hne : 0 < ns.length)
    (h : ∀ h' tk M t', (∀ b o, s.heap.get? b = some o → h'.get? b = some o) → M ∈ ns → (∀ a, a ∈ ns → a ≤ M) → Q (.int M t') { s with heap := h', toks := tk }) : wpAny (model prog w) A (call (.builtin "max") [.ref l]) Q E s := by
  obtain ⟨xs, e⟩ := hi.allInts.items
  have hn : numsOf (intItems xs).toList = ns := by rw [← e]; exact hi.numsOf
  rw [nums_intItems] at hn
  subst hn
  rw [e] at hl
  have hsz : 0 < xs.size := by simpa using hne
  have hlt : l < s.heap.objs.size := by obtain ⟨_, q, _⟩ := hl; exact Heap.lt_size q
  refine call_max_walk (wpAny_pyIter_tuple hl ?_)
  refine ⟨_, [s.heap.objs.size, l], [s.heap.objs.size], _, _, _, _, rfl, Walks.tuple (A := A.in1) hh _ l (Nat.ne_of_lt hlt) (intItems xs), ⟨⟨_, Heap.get?_push_size _ rfl, rfl, rfl⟩, hl.push _⟩, tup_live hl, by simpa [intItems] using hsz, CmpOf.ints_gt (numAt xs) (fun _ _ => intItems_at), fun v h' tk hv hk => ?_⟩
  have hv' : (intItems xs)[argBest (fun i j => decide (numAt xs i > numAt xs j)) (xs.size - 1)]? = some v := by simpa [intItems] using hv
  obtain ⟨t, rfl⟩ := intItems_at hv'
  obtain ⟨h1, h2⟩ := argBest_gt (numAt xs) (xs.size - 1)
  refine h h' tk _ t (tup_kept hk) ?_ fun a ha => ?_
  · rw [numAt_eq]; exact PySem.getD_mem (by rw [List.length_map, Array.length_toList]; omega)
  · obtain ⟨j, hj, rfl⟩ := mem_getD ha
    rw [List.length_map, Array.length_toList] at hj
    rw [← numAt_eq]; exact h2 j (by omega)
theorem min_rawT (hh : A.handled = none) (hl : s.heap.IsTuple l its.toArray) (hi : IntsAre its ns) (hne : 0 < ns.length)
    (h : ∀ h' tk M t', (∀ b o, s.heap.get? b = some o → h'.get? b = some o) → M ∈ ns → (∀ a, a ∈ ns → M ≤ a) → Q (.int M t') { s with heap := h', toks := tk }) : wpAny (model prog w) A (call (.builtin "min") [.ref l]) Q E s := by
  obtain ⟨xs, e⟩ := hi.allInts.items
  have hn : numsOf (intItems xs).toList = ns := by rw [← e]; exact hi.numsOf
  rw [nums_intItems] at hn
  subst hn
  rw [e] at hl
  have hsz : 0 < xs.size := by simpa using hne
  have hlt : l < s.heap.objs.size := by obtain ⟨_, q, _⟩ := hl; exact Heap.lt_size q
  refine call_min_walk (wpAny_pyIter_tuple hl ?_)
  refine ⟨_, [s.heap.objs.size, l], [s.heap.objs.size], _, _, _, _, rfl, Walks.tuple (A := A.in1) hh _ l (Nat.ne_of_lt hlt) (intItems xs), ⟨⟨_, Heap.get?_push_size _ rfl, rfl, rfl⟩, hl.push _⟩, tup_live hl, by simpa [intItems] using hsz, CmpOf.ints_lt (numAt xs) (fun _ _ => intItems_at), fun v h' tk hv hk => ?_⟩
  have hv' : (intItems xs)[argBest (fun i j => decide (numAt xs i < numAt xs j)) (xs.size - 1)]? = some v := by simpa [intItems] using hv
  obtain ⟨t, rfl⟩ := intItems_at hv'
  obtain ⟨h1, h2⟩ := argBest_lt (numAt xs) (xs.size - 1)
  refine h h' tk _ t (tup_kept hk) ?_ fun a ha => ?_
  · rw [numAt_eq]; exact PySem.getD_mem (by rw [List.length_map, Array.length_toList]; omega)
  · obtain ⟨j, hj, rfl⟩ := mem_getD ha
    rw [List.length_map, Array.length_toList] at hj
    rw [← numAt_eq]; exact h2 j (by omega)
end
section
variable {X : Cx}
def rMaxT : RCD := fun ds q => match ds with
  | [.tup xs] => (match intsD xs with
    | some ns => 0 < ns.length ∧ ∀ m, m ∈ ns → (∀ y, y ∈ ns → y ≤ m) → q (.int m)
    | none => False)
  | _ => False
def rMinT : RCD := fun ds q => match ds with
  | [.tup xs] => (match intsD xs with
    | some ns => 0 < ns.length ∧ ∀ m, m ∈ ns → (∀ y, y ∈ ns → m ≤ y) → q (.int m)
    | none => False)
  | _ => False
theorem cr_maxT (hc : X.calm = true) : CallR X (.builtin "max") (fun vs H Q => ∃ (a : Addr) (ns : List Int), vs = [V.ref a] ∧ SqT X.K H a (ns.map V.int) ∧ 0 < ns.length ∧ ∀ m, m ∈ ns → (∀ y, y ∈ ns → y ≤ m) → Q (.int m) H) := by
  intro pins s σ H vs us Q I r h
  obtain ⟨a, ns, rfl, hs, hne, q⟩ := h
  obtain ⟨its, rv, hl, _⟩ := I.tuple hs
  rw [Vals.ref1 r]
  exact max_rawT (I.ok.hd hc) (show s.heap.IsTuple a its.toArray from hl) rv.ints hne fun h' tk m t' hk h1 h2 => ⟨.int _, H, I.kept hk, ⟨_, rfl⟩, q m h1 h2⟩
theorem cr_minT (hc : X.calm = true) : CallR X (.builtin "min") (fun vs H Q => ∃ (a : Addr) (ns : List Int), vs = [V.ref a] ∧ SqT X.K H a (ns.map V.int) ∧ 0 < ns.length ∧ ∀ m, m ∈ ns → (∀ y, y ∈ ns → m ≤ y) → Q (.int m) H) := by
  intro pins s σ H vs us Q I r h
  obtain ⟨a, ns, rfl, hs, hne, q⟩ := h
  obtain ⟨its, rv, hl, _⟩ := I.tuple hs
  rw [Vals.ref1 r]
  exact min_rawT (I.ok.hd hc) (show s.heap.IsTuple a its.toArray from hl) rv.ints hne fun h' tk m t' hk h1 h2 => ⟨.int _, H, I.kept hk, ⟨_, rfl⟩, q m h1 h2⟩
theorem c_maxT (hc : X.calm = true) : CallD X (.builtin "max") rMaxT := by
  refine ⟨_, cr_maxT hc, fun F E H ds vs q Q hF at_ hv h k => ?_⟩
  unfold rMaxT at h
  split at h
  · rename_i xs
    obtain ⟨v, rfl, a, ys, rfl, t, g⟩ := hv.one
    cases qi : intsD xs with
    | none => rw [qi] at h; exact h.elim
    | some ns =>
      rw [qi] at h
      have ex := intsD_of g qi
      subst ex
      exact ⟨a, ns, rfl, by rw [← hF]; exact t.sq, h.1, fun m h1 h2 => k _ (h.2 m h1 h2) _ H (XExt.refl at_.so) rfl⟩
  · exact h.elim
theorem c_minT (hc : X.calm = true) : CallD X (.builtin "min") rMinT := by
  refine ⟨_, cr_minT hc, fun F E H ds vs q Q hF at_ hv h k => ?_⟩
  unfold rMinT at h
  split at h
  · rename_i xs
    obtain ⟨v, rfl, a, ys, rfl, t, g⟩ := hv.one
    cases qi : intsD xs with
    | none => rw [qi] at h; exact h.elim
    | some ns =>
      rw [qi] at h
      have ex := intsD_of g qi
      subst ex
      exact ⟨a, ns, rfl, by rw [← hF]; exact t.sq, h.1, fun m h1 h2 => k _ (h.2 m h1 h2) _ H (XExt.refl at_.so) rfl⟩
  · exact h.elim
@[simp] theorem x_rMaxT {xs : List D} {q : D → Prop} : rMaxT [.tup xs] q = (match intsD xs with
    | some ns => 0 < ns.length ∧ ∀ m, m ∈ ns → (∀ y, y ∈ ns → y ≤ m) → q (.int m)
    | none => False) := rfl
@[simp] theorem x_rMinT {xs : List D} {q : D → Prop} : rMinT [.tup xs] q = (match intsD xs with
    | some ns => 0 < ns.length ∧ ∀ m, m ∈ ns → (∀ y, y ∈ ns → m ≤ y) → q (.int m)
    | none => False) := rfl
end
end DL

set_option Elab.async false
set_option linter.all false
set_option maxRecDepth 100000
set_option maxHeartbeats 4000000
namespace DL
open PySem PySem.Calls PyProof.Rows L2
theorem looks_tup {X : Cx} {pins : List (Addr × Obj)} {σ : L2.St} {H : Hp} {s : Shared} {x : V} {u : Value} (I : Inv X pins σ H s) (rx : RelV x u) (ty : TyX X.K H x (.type "tuple")) : PySem.W.Looks (model X.prog X.w) s.heap (typeOf u) (.type "tuple") := by
  have key : ∃ a o, u = .ref a ∧ s.heap.get? a = some o ∧ o.cls = .type "tuple" := by
    generalize ht : Value.type "tuple" = t at ty
    cases ty with
    | base b =>
      cases b with
      | @tup a xs ea =>
        cases (show u = Value.ref a from rx)
        obtain ⟨_, _, _, o, h1, h2, _⟩ := (show ObjOk X.prog X.w H s.heap a (.tup xs) from I.hok a _ ea)
        exact ⟨_, o, rfl, h1, h2⟩
      | _ => first | (injection ht with ht; exact absurd ht (by decide)) | cases ht
    | @kTuple a o e c =>
      cases (show u = Value.ref a from rx)
      exact ⟨_, o, rfl, I.kIn a o e, c⟩
    | @fTuple a ob xs ea =>
      cases (show u = Value.ref a from rx)
      obtain ⟨_, _, _, _, o, h1, h2, _⟩ := (show ObjOk X.prog X.w H s.heap a (.frz ob (.tup xs)) from I.hok a _ ea)
      exact ⟨_, o, rfl, h1, h2⟩
    | _ => first | (injection ht with ht; exact absurd ht (by decide)) | cases ht
  obtain ⟨a, o, rfl, h1, h2⟩ := key
  exact (PySem.W.Looks.ld h1).andThen (by rw [h2]; exact .now)
/-- the own == of a class -/
def MethEq (P : Program) (w : World) (K : PySem.W.Frag) (mg : Str → Option Value) (base : Heap) (C : Addr) (k : Nat) (tf : RF) : Prop :=
  ∃ f fd ps, ps.length = 2 ∧ FnOk P w K mg base CX0 k f fd ps (spD K 2 tf) ∧ PySem.W.findIn K (.ref C) "__eq__" = some (some (.ref f)) ∧ PySem.W.isFn K (.ref f) = true ∧ Binds K fd ps [] ∧ PySem.W.notFirst K C (.type "tuple") = true
def rEqO (K : PySem.W.Frag) (C : Addr) (tf : RF) : R2 := fun x y H Q => ∃ a dx fs, x = .ref a ∧ H a = some (.ins C dx fs) ∧ ((∃ b dy gs, y = .ref b ∧ H b = some (.ins C dy gs)) ∨ TyX K H y (.type "tuple")) ∧
  spD K 2 tf [x, y] H (fun v H' => ∃ r, v = .bl r ∧ Q v H') (fun _ _ _ => False)
theorem op_eqO {X : Cx} {C : Addr} {k : Nat} {tf : RF} (G : MethEq X.prog X.w X.K X.mg X.base C k tf) (hr : Room k X.A) : OpR X (compareOp .Eq) (rEqO X.K C tf) := by
  intro pins s σ H x y v u Q I rx ry hq
  obtain ⟨f, fd, ps, hps, F, hs, hf, hb, hnf⟩ := G
  obtain ⟨a, dx, fs, rfl, ha, hy, hsp⟩ := hq
  cases (show v = Value.ref a from rx)
  obtain ⟨mA, J, _⟩ := ins_get I.hok ha
  obtain ⟨od, J, _⟩ := J.look
  obtain ⟨m, hF⟩ := I.fr
  show wpAny (model X.prog X.w) X.A (richCompare .Eq (.ref a) u) (EP X pins σ Q) X.xe s
  have lk : ∃ tb, PySem.W.Looks (model X.prog X.w) s.heap (typeOf u) tb ∧ PySem.W.notFirst X.K C tb = true := by
    rcases hy with ⟨b, dy, gs, rfl, hb'⟩ | ty
    · cases (show u = Value.ref b from ry)
      obtain ⟨mB, J', _⟩ := ins_get I.hok hb'
      obtain ⟨od', J', _⟩ := J'.look
      exact ⟨_, J'.type, by simp [PySem.W.notFirst]⟩
    · exact ⟨_, looks_tup I ry ty, hnf⟩
  obtain ⟨tb, lk, nf⟩ := lk
  refine PySem.W.cmp_K (op := .Eq) (tb := tb) hr.units0 hF I.ok.mod.kin J lk nf hs hf ?_
  have e0 : Env0 X.prog X.w X.K X.mg X.base X.A X.stack s H := I.env0
  have hl := F.len _ _ _ _ hsp
  have r2 : Vals [V.ref a, y] [Value.ref a, u] := .cons rfl (.cons ry .nil)
  refine wpAny_call (codeAny_mono (F.run X.A X.stack s H ⟨[.ref a, u], []⟩ [.ref a, u] [.ref a, y] _ _ hr e0 (by
    have := hb s [.ref a, u] I.kIn (by simpa using hl)
    simpa using this) r2 hsp) fun r s' hq => ?_)
  cases r with
  | error e => exact pass0 pins σ H s e s' I hq
  | ok fl =>
    cases fl with
    | ret w =>
      obtain ⟨z, H', I', rz, r, ez, q⟩ := I.after hq
      subst ez
      cases (show w = Value.bool r from rz)
      exact ⟨.bl r, H', I', rfl, q⟩
    | next => exact False.elim hq
    | brk => exact False.elim hq
    | cont => exact False.elim hq
/-- a == b, a of the class C -/
def deqo (C : Addr) (tf : RF) (ta tb : RE) : RE := fun ρ q => ta ρ fun x => tb ρ fun y => (match x with | .obj c _ _ => c = C | _ => False) ∧ (match y with | .obj c _ _ => c = C | .tup _ => True | _ => False) ∧ tf [.im x, .im y] (fun d => ∃ b, d = .bl b ∧ q (.bl b))
theorem eqo_ {X : Cx} {C : Addr} {tf : RF} {ta tb : RE} {F : Fx} (hF : F.K = X.K) (σ : L2.St) (H : Hp) (Q : VK) (h : liftE F (deqo C tf ta tb) σ H Q) : tOp (rEqO X.K C tf) (liftE F ta) (liftE F tb) σ H Q := by
  revert h
  rintro ⟨E, ρ, q, env, hq, kk⟩
  refine ⟨E, ρ, _, env, hq, fun x hx u H1 x1 hu => ?_⟩
  refine ⟨E, ρ, _, env.step x1, hx, fun y hy v H2 x2 hv => ?_⟩
  have e1 := env.step x1
  have e2 := e1.step x2
  have hu2 : Dn F.K E H2 x u := e1.at_.dn x2 hu
  obtain ⟨h1, h2, h3⟩ := hy
  cases x with
  | obj c ns xs =>
    dsimp only at h1
    subst h1
    have args : ArgsOk ⟨F.K, E, H2, F.src, []⟩ E H2 [u, v] [.im (.obj c ns xs), .im y] := ⟨hu2, hv, trivial⟩
    have sp : spD X.K 2 tf [u, v] H2 (fun v H' => ∃ r, v = .bl r ∧ Q v H') (fun _ _ _ => False) := by
      refine ⟨⟨F.K, E, H2, F.src, []⟩, _, _, hF, rfl, rfl, fun b hb => e2.we hb, e2.live, e2.so, rfl, args, h3, fun d hd z H' x3 hz => ?_⟩
      obtain ⟨r, rfl, hr⟩ := hd
      refine ⟨r, hz, ?_⟩
      exact kk _ hr z H' (x1.trans (x2.trans x3)) hz
    obtain ⟨a', dx, fs, rfl, n1, t1, m1, g1⟩ := hu2
    refine ⟨a', dx, fs, rfl, t1, ?_, sp⟩
    cases y with
    | obj c' ns' xs' =>
      dsimp only at h2
      subst h2
      obtain ⟨b', dy, gs, rfl, n2, t2, m2, g2⟩ := hv
      exact .inl ⟨b', dy, gs, rfl, t2⟩
    | tup ds =>
      obtain ⟨b', ys, rfl, t, g⟩ := hv
      refine .inr ?_
      rw [← hF]
      rcases t with t | ⟨o, its, n, h1, h2', h3', h4, h5⟩
      · exact .base (.tup t.2)
      · exact .kTuple h1 h2'
    | _ => exact h2.elim
  | _ => exact h1.elim
theorem e_eqo {X : Cx} {C : Addr} {k : Nat} {tf : RF} {a b : Expr} {ta tb : RE} {pos : Pos} (G : MethEq X.prog X.w X.K X.mg X.base C k tf) (hr : Room k X.A) (ha : ED X a ta) (hb : ED X b tb) (hm : behindInMarks .Eq b = false) : ED X (.Compare a [.Eq] [b] pos) (deqo C tf ta tb) := fun F hF =>
  (pe_cmpR (op_eqO G hr) (ha F hF) (hb F hF) hm).imp fun σ H Q h => eqo_ hF σ H Q h
theorem t_eqo {X : Cx} {C : Addr} {k : Nat} {tf : RF} {a b : Expr} {ta tb : RE} {pos : Pos} (G : MethEq X.prog X.w X.K X.mg X.base C k tf) (hr : Room k X.A) (ha : ED X a ta) (hb : ED X b tb) (hm : behindInMarks .Eq b = false) : TD X (.Compare a [.Eq] [b] pos) (dtest (deqo C tf ta tb)) := fun F hF =>
  (pt_cmpR (op_eqO G hr) (ha F hF) (hb F hF) hm).imp fun σ H Q h => eqo_ hF σ H _ (dtest_ σ H Q h)
@[simp] theorem x_deqo {C : Addr} {tf : RF} {ta tb : RE} {ρ : Rho} {q : D → Prop} : deqo C tf ta tb ρ q = ta ρ fun x => tb ρ fun y => (match x with | .obj c _ _ => c = C | _ => False) ∧ (match y with | .obj c _ _ => c = C | .tup _ => True | _ => False) ∧ tf [.im x, .im y] (fun d => ∃ b, d = .bl b ∧ q (.bl b)) := rfl
end DL

set_option Elab.async false
set_option linter.all false
set_option maxRecDepth 100000
set_option maxHeartbeats 4000000
namespace DL
open PySem PySem.Spec PySem.Calls PyProof.Rows L2
section
variable {X : Cx} {CX : CXT} {k : Nat} {f C : Addr} {fd : FuncData} {ps : List Str} {sp : Sp} {E : L2.St → XK} {x : Str} {p pos : Pos} {e : Expr} {es : List Expr} {t : TA}
/-- C(..) whose __init__ may raise -/
theorem run_makeS {pins : List (Addr × Obj)} {σ : L2.St} {H : Hp} {s : Shared} {Q : VK} {us : List Value} {vs : List V} {E : XK} (M : Mk X.K C f) (F : FnOk X.prog X.w X.K X.mg X.base CX k f fd ps sp) (hr : Room (k + 1) X.A) (hb : Binds X.K fd ps [])
    (hx : PassesAt CX X σ E) (I : Inv X pins σ H s) (r : Vals vs us)
    (h : ∀ x dx, H x = none → H dx = none → dx ≠ x → sp (.ref x :: vs) (upd (upd H dx (.own x)) x (.ins C dx [])) (fun v H2 => v = .non ∧ Q (.ref x) H2) E) :
    wpAny (model X.prog X.w) X.A (call (.ref C) us) (EP X pins σ Q) X.xe s := by
  have hq := h (s.heap.objs.size + 1) s.heap.objs.size (I.hok.fresh (Nat.le_succ _)) (I.hok.fresh (Nat.le_refl _)) (Nat.ne_of_lt (Nat.lt_succ_self _))
  have I2 := Inv.made (C := C) I
  have r2 : Vals (V.ref (s.heap.objs.size + 1) :: vs) (Value.ref (s.heap.objs.size + 1) :: us) := .cons rfl r
  have hl : (Value.ref (s.heap.objs.size + 1) :: us ++ []).length = ps.length := by
    have e := r2.length
    rw [F.len _ _ _ _ hq] at e
    rw [List.append_nil]
    exact e.symm
  have hbb := hb _ (Value.ref (s.heap.objs.size + 1) :: us) I2.kIn hl
  rw [List.append_nil] at hbb
  refine wpAny_call (make_map (f := f) I.kIn M.makes M.init (beq_iff_eq.mp M.fn) (codeAny_mono (F.run _ X.stack _ _ ⟨Value.ref (s.heap.objs.size + 1) :: us, []⟩ (Value.ref (s.heap.objs.size + 1) :: us) _ _ E (hr.make C us [])
    (I2.env0.make C us []) hbb r2 hq) fun r s' hq' => ?_))
  cases r with
  | error e => exact hx pins _ _ e s' I2 hq'
  | ok fl =>
    cases fl with
    | ret u =>
      obtain ⟨v, H', I3, rv, ev, q3⟩ := I2.after hq'
      subst ev
      exact ⟨rv, ⟨V.ref (s.heap.objs.size + 1), H', I3, rfl, q3⟩⟩
    | next => exact False.elim hq'
    | brk => exact False.elim hq'
    | cont => exact False.elim hq'
def tMakeS (C : Addr) (sp : Sp) (E : L2.St → XK) (t : TA) : TE := fun σ H Q => t σ H fun vs H1 => ∀ x dx, H1 x = none → H1 dx = none → dx ≠ x → sp (.ref x :: vs) (upd (upd H1 dx (.own x)) x (.ins C dx [])) (fun v H2 => v = .non ∧ Q (.ref x) H2) (E σ)
theorem pe_makeS (M : Mk X.K C f) (F : FnOk X.prog X.w X.K X.mg X.base CX k f fd ps sp) (hr : Room (k + 1) X.A) (hg : Gl X x) (hm : X.mg x = some (.ref C)) (hb : Binds X.K fd ps []) (hx : ∀ σ, PassesAt CX X σ (E σ))
    (ha : PA X (e :: es) t) (hdb : (x == ("__debug__" : Str)) = false := by decide) (he : starEach (e :: es) X.env = (false, eval e X.env) :: starEach es X.env := by rfl) (hpl : (backTo pos (starEach es X.env)).any (·.1) = false := by rfl) :
    PE X (.Call (.Name x p) (e :: es) [] pos) (tMakeS C sp E t) := by
  refine ⟨fun pins s σ H Q I h => ?_⟩
  refine wpAny_Call_Name_kw (ld_glob I hg hm ?_ hdb)
  refine PySem.W.callWith_K (h₀ := X.base) I.ok.mod.kin M.kp (thn (ha.run pos pins s σ H _ I h) fun us s1 ⟨vs, H1, I1, r, q⟩ => ⟨I1.kIn, ?_⟩) he hpl
  exact run_makeS M F hr hb (hx σ) I1 r q
end
/-- what __init__ promises when the check may raise -/
def spInitX (mg : Str → Option Value) (K : PySem.W.Frag) (C : Addr) (tc : RXF) : Sp := fun vs H Q E => ∃ (x dx : Addr) (v : V) (F : Fx) (d : D) (q : D → Prop) (ex : XD → Prop), vs = [.ref x, v] ∧ H x = some (.ins C dx []) ∧ ¬ F.W x ∧
  F.K = K ∧ F.H0 = H ∧ F.held = [] ∧ (∀ b, F.W b → F.B b) ∧ (∀ b, F.B b → ∃ o, H b = some o) ∧ F.SO H ∧ Dn F.K F.B H d v ∧ tc [.im d] q ex ∧
  (∀ r, q r → ∀ H', XExt F H H' → Q .non (upd H' x (.ins C dx [("rows", v)]))) ∧ ∀ y, ex y → ∀ cls c H', XExt F H H' → XOk mg F.K F.B H' y cls c → E cls c H'
def MkOkX (P : Program) (w : World) (K : PySem.W.Frag) (mg : Str → Option Value) (base : Heap) (C : Addr) (k : Nat) (tc : RXF) : Prop :=
  ∃ fI fd, Mk K C fI ∧ FnOk P w K mg base (L2N.CX P w) k fI fd ["self", "table"] (spInitX mg K C tc) ∧ Binds K fd ["self", "table"] []
def xmake (C : Addr) (tc : RXF) (ta : RE) : RXE := fun ρ q ex => ta ρ fun d => tc [.im d] (fun _ => q (.obj C ["rows"] [d])) ex
theorem xe_make {X : Cx} {W : WX} {k : Nat} {C : Addr} {tc : RXF} {e : Expr} {ta : RE} {p pos : Pos} (G : MkOkX X.prog X.w X.K X.mg X.base C k tc) (hr : Room (k + 1) X.A) (tk : L2N.Takes X W) (hg : Gl X "Machine") (hm : X.mg "Machine" = some (.ref C)) (ha : ED X e ta)
    (hs : starEach [e] X.env = (false, eval e X.env) :: starEach [] X.env := by rfl) (hpl : (backTo pos (starEach [] X.env)).any (·.1) = false := by rfl) : XED X W (.Call (.Name "Machine" p) [e] [] pos) (xmake C tc ta) := fun F hF => by
  obtain ⟨fI, fd, M, G, b⟩ := G
  refine (pe_makeS M G hr hg hm b (fun σ => L2N.passAt tk σ) (pa_cons (ha F hF) pa_nil hs) (by decide) hs hpl).imp fun σ H Q => ?_
  rintro ⟨E, ρ, q, ex, env, h, k, kx⟩
  refine ⟨E, ρ, _, env, h, fun d hd v H1 x1 hv => ?_⟩
  intro x dx hx hdx hne
  have e1 := env.step x1
  have hx' : upd H1 dx (.own x) x = none := by rw [upd_ne (Ne.symm hne)]; exact hx
  have x2 : XExt F H1 (upd (upd H1 dx (.own x)) x (.ins C dx [])) := (XExt.new e1.so hdx).trans (XExt.new (XExt.new e1.so hdx).2 hx')
  have e2 := e1.step x2
  have nE : ¬ E x := e1.nE hx
  refine ⟨x, dx, v, ⟨F.K, E, _, F.src, []⟩, d, _, ex, rfl, upd_same, fun w => nE (e1.we w), hF, rfl, rfl, fun b hb => e2.we hb, e2.live, e2.so, e1.dn x2 hv, hd, fun r hr' H' x3 => ⟨rfl, ?_⟩, fun y hy cls c H' x3 xo => kx y hy cls c H' (x1.trans (x2.trans x3)) xo⟩
  have fx : ∀ b o, H1 b = some o → ¬ F.W b → upd H' x (.ins C dx [("rows", v)]) b = some o := fun b o qb w => by
    rw [upd_ne (ne_of_none qb hx)]
    exact x3.1 b o (x2.1 b o qb w) w
  have nW : ¬ F.W x := fun w => nE (e1.we w)
  have so' : F.SO (upd H' x (.ins C dx [("rows", v)])) := (show F.SO H' from x3.2).of fun b o w qb => by rw [upd_ne (fun z : b = x => nW (z ▸ w))]; exact qb
  refine k _ hr' _ _ (x1.trans ⟨fx, so'⟩) ?_
  refine ⟨x, dx, [("rows", v)], rfl, nE, upd_same, rfl, ⟨v, [], rfl, ?_, rfl⟩⟩
  exact Dn.ext (fun b o qb w => fx b o qb fun z => w (e1.we z)) _ _ hv
@[simp] theorem x_xmake {C : Addr} {tc : RXF} {ta : RE} {ρ : Rho} {q : D → Prop} {ex : XD → Prop} : xmake C tc ta ρ q ex = ta ρ fun d => tc [.im d] (fun _ => q (.obj C ["rows"] [d])) ex := rfl
/-! ### a raising def where nothing is raised -/
def plainR (tf : RXF) : RF := fun ss q => tf ss q fun _ => False
theorem RetX.plain {tf : RXF} {ss : List Sl} {d : D} (h : RetX tf ss d) : Ret (plainR tf) ss d := fun q hq => h q _ hq
theorem CR_plain {P : Program} {w : World} {outer : List Env} {H : Hp} {s : Shared} {Q : VK} {E : XK} {r : Result} {s' : Shared} (h : CR (L2N.CX P w) outer P w H s Q (fun _ _ _ => False) r s') : CR CX0 outer P w H s Q E r s' := by
  cases r with
  | error e =>
    obtain ⟨a, B, H', cls, d, _, _, _, _, _, _, _, hE⟩ := (show L2N.CX P w outer H s (fun _ _ _ => False) e s' from h)
    exact hE.elim
  | ok fl => cases fl <;> exact h
theorem plain_of {P : Program} {w : World} {K : PySem.W.Frag} {mg : Str → Option Value} {base : Heap} {x : Str} {k n : Nat} {tf : RXF} (G : CalX P w K mg base x k n tf) : Cal P w K mg base x k n (plainR tf) := by
  obtain ⟨f, fd, ps, h1, F, hm, hk, hb⟩ := G
  have to : ∀ vs H Q E, spD K n (plainR tf) vs H Q E → spX mg K n tf vs H Q (fun _ _ _ => False) := fun vs H Q E ⟨F', ss, q, a1, a2, a3, a4, a5, a6, a7, a8, a9, a10⟩ =>
    ⟨F', ss, q, fun _ => False, a1, a2, a3, a4, a5, a6, a7, a8, a9, a10, fun x hx => hx.elim⟩
  exact ⟨f, fd, ps, h1, ⟨fun vs H Q E h => F.len _ _ _ _ (to _ _ _ _ h), fun A outer s H args us vs Q E hr he hb hv hs => codeAny_mono (F.run A outer s H args us vs Q _ hr he hb hv (to _ _ _ _ hs)) fun r s' hq => CR_plain hq⟩, hm, hk, hb⟩
theorem make_plain {P : Program} {w : World} {K : PySem.W.Frag} {mg : Str → Option Value} {base : Heap} {C : Addr} {k : Nat} {tc : RXF} (G : MkOkX P w K mg base C k tc) : MkOk P w K mg base C k (plainR tc) := by
  obtain ⟨fI, fd, M, F, b⟩ := G
  have to : ∀ vs H Q E, spInit K C (plainR tc) vs H Q E → spInitX mg K C tc vs H Q (fun _ _ _ => False) := fun vs H Q E ⟨x, dx, v, F', d, q, a0, a1, a2, a3, a4, a5, a6, a7, a8, a9, a10, a11⟩ =>
    ⟨x, dx, v, F', d, q, fun _ => False, a0, a1, a2, a3, a4, a5, a6, a7, a8, a9, a10, a11, fun x hx => hx.elim⟩
  exact ⟨fI, fd, M, ⟨fun vs H Q E h => F.len _ _ _ _ (to _ _ _ _ h), fun A outer s H args us vs Q E hr he hb hv hs => codeAny_mono (F.run A outer s H args us vs Q _ hr he hb hv (to _ _ _ _ hs)) fun r s' hq => CR_plain hq⟩, b⟩
end DL

set_option Elab.async false
set_option linter.all false
set_option maxRecDepth 100000
set_option maxHeartbeats 4000000
namespace DL
open PySem PySem.Calls PyProof.Rows L2
/-! ### isinstance(x, Machine), len(machine) -/
structure IsM (K : PySem.W.Frag) (C : Addr) : Prop where
  cl : Cls K C
  own : PySem.W.kitOne K (.ref C) (.ref C) = some true
  tup : PySem.W.kitOne K (.type "tuple") (.ref C) = some false
  lst : PySem.W.kitOne K (.type "list") (.ref C) = some false
  non : PySem.W.kitOne K (.type "NoneType") (.ref C) = some false
  ha : PySem.W.findIn K (.ref C) "__class__" = some (some (.builtin "object.__class__"))
  hn : PySem.W.specialIn K (.builtin "object.__class__") "__get__" = some (some (.builtin "getset_descriptor.__get__"))
  htk : PySem.W.takesIn K (.builtin "object.__class__") = some true
  hm : PySem.W.mroIn K C (.type "object") = some true
def disM (C : Addr) (ta : RE) : RE := fun ρ q => ta ρ fun d => match d with
  | .obj c _ _ => c = C ∧ q (.bl true)
  | .tup _ => q (.bl false)
  | .lst _ => q (.bl false)
  | .non => q (.bl false)
  | _ => False
theorem e_isM {X : Cx} {C : Addr} {x : Str} {e : Expr} {ta : RE} {pos p p' : Pos} (I : IsM X.K C) (hg : Gl X "isinstance") (hm : X.mg "isinstance" = none) (hgM : Gl X x) (hmM : X.mg x = some (.ref C)) (ha : BD X e ta)
    (hdb : (x == ("__debug__" : Str)) = false := by decide)
    (h1 : starEach [e, .Name x p'] X.env = (false, eval e X.env) :: starEach [.Name x p'] X.env := by rfl) (h2 : starEach [.Name x p'] X.env = (false, eval (.Name x p') X.env) :: starEach [] X.env := by rfl)
    (hpl : (backTo pos (starEach [.Name x p'] X.env)).any (·.1) = false := by rfl) :
    ED X (.Call (.Name "isinstance" p) [e, .Name x p'] [] pos) (disM C ta) := fun F hF => by
  refine (pe_callB call_isi hg hm PyProof.Rows.boot_isinstance (pa_cons (ha F hF) (pa_cons (pe_glob (v := .ref C) hgM hmM rfl hdb) pa_nil h2) h1) (by decide) (by decide) h1 hpl).imp fun σ H Q => ?_
  rintro ⟨E, ρ, q, env, h, k⟩
  refine ⟨E, ρ, _, env, h, fun d hd v H1 x1 hv => ?_⟩
  have plain : ∀ T : String, TyX X.K H1 v (.type T) → PySem.W.kitOne X.K (.type T) (.ref C) = some false → q (.bl false) → rIsi X.K [v, .ref C] H1 Q := fun T ty kt hq =>
    ⟨v, .ref C, _, _, _, rfl, .own C, ty, kt, k _ hq _ H1 x1 rfl⟩
  cases d with
  | obj c ns xs =>
    obtain ⟨rfl, hq⟩ := hd
    obtain ⟨a, dx, fs, rfl, n1, t1, m1, g1⟩ := hv
    exact ⟨_, .ref c, _, _, _, rfl, .own c, .base (.ins t1 I.cl I.ha I.hn I.htk I.hm), I.own, k _ hq _ H1 x1 rfl⟩
  | tup ds => exact plain "tuple" (hF ▸ Top.ty (d := .tup ds) rfl hv) I.tup hd
  | lst ds => exact plain "list" (hF ▸ Top.ty (d := .lst ds) rfl hv) I.lst hd
  | non => exact plain "NoneType" (hF ▸ Top.ty (d := .non) rfl hv) I.non hd
  | _ => exact hd.elim
@[simp] theorem x_disM {C : Addr} {ta : RE} {ρ : Rho} {q : D → Prop} : disM C ta ρ q = ta ρ fun d => (match d with
  | .obj c _ _ => c = C ∧ q (.bl true)
  | .tup _ => q (.bl false)
  | .lst _ => q (.bl false)
  | .non => q (.bl false)
  | _ => False) := rfl
/-- the own __len__ of a class -/
def MethLen (P : Program) (w : World) (K : PySem.W.Frag) (mg : Str → Option Value) (base : Heap) (C : Addr) (k : Nat) (tf : RF) : Prop :=
  ∃ f fd ps, ps.length = 1 ∧ FnOk P w K mg base CX0 k f fd ps (spD K 1 tf) ∧ PySem.W.findIn K (.ref C) "__len__" = some (some (.ref f)) ∧ PySem.W.isFn K (.ref f) = true ∧ Binds K fd ps []
def rLenM (K : PySem.W.Frag) (C : Addr) (tf : RF) : List V → Hp → VK → Prop := fun xs H Q => ∃ a dx fs, xs = [.ref a] ∧ H a = some (.ins C dx fs) ∧
  spD K 1 tf [.ref a] H (fun v H' => ∃ n : Int, v = .int n ∧ (0 ≤ n ∧ n < 2 ^ 63) ∧ Q (.int n) H') (fun _ _ _ => False)
theorem call_lenM {X : Cx} {C : Addr} {k : Nat} {tf : RF} (G : MethLen X.prog X.w X.K X.mg X.base C k tf) (hr : Room (k + 1) X.A) : CallR X (.builtin "len") (rLenM X.K C tf) := by
  intro pins s σ H xs us Q I r hq
  obtain ⟨f, fd, ps, hps, F, hs, hf, hb⟩ := G
  obtain ⟨a, dx, fs, rfl, ha, hsp⟩ := hq
  cases r with
  | cons rx rt =>
  cases rt
  rename_i u
  cases (show u = Value.ref a from rx)
  obtain ⟨mA, J, _⟩ := ins_get I.hok ha
  obtain ⟨od, J, _⟩ := J.look
  obtain ⟨m, hF⟩ := I.fr
  refine PySem.W.len_K hF I.ok.mod.kin J hs hf ?_
  have hl := F.len _ _ _ _ hsp
  refine wpAny_call (codeAny_mono (F.run X.A.in1 X.stack s H ⟨[.ref a], []⟩ [.ref a] [.ref a] _ _ hr.in1 I.env0.in1 (by
    have := hb s [.ref a] I.kIn (by simpa using hl)
    simpa using this) (.cons rfl .nil) hsp) fun r s' hq => ?_)
  cases r with
  | error e => exact pass0 pins σ H s e s' I hq
  | ok fl =>
    cases fl with
    | ret w =>
      obtain ⟨z, H', I', rz, n, ez, hn, q⟩ := I.after hq
      subst ez
      obtain ⟨t, rfl⟩ := (show ∃ t, w = Value.int n t from rz)
      exact ⟨hn, .int n, H', I'.tok _, ⟨_, rfl⟩, q⟩
    | next => exact False.elim hq
    | brk => exact False.elim hq
    | cont => exact False.elim hq
def dlenM (C : Addr) (tf : RF) (ta : RE) : RE := fun ρ q => ta ρ fun x => (match x with | .obj c _ _ => c = C | _ => False) ∧ tf [.im x] (fun d => ∃ n : Int, d = .int n ∧ (0 ≤ n ∧ n < 2 ^ 63) ∧ q (.int n))
theorem e_lenM {X : Cx} {C : Addr} {k : Nat} {tf : RF} {e : Expr} {ta : RE} {pos p : Pos} (G : MethLen X.prog X.w X.K X.mg X.base C k tf) (hr : Room (k + 1) X.A) (hg : Gl X "len") (hm : X.mg "len" = none) (ha : ED X e ta)
    (he : starEach [e] X.env = (false, eval e X.env) :: starEach [] X.env := by rfl) (hpl : (backTo pos (starEach [] X.env)).any (·.1) = false := by rfl) : ED X (.Call (.Name "len" p) [e] [] pos) (dlenM C tf ta) := fun F hF => by
  refine (pe_callB (call_lenM G hr) hg hm PySem.boot_len (pa_cons (ha F hF) pa_nil he) (by decide) (by decide) he hpl).imp fun σ H Q => ?_
  rintro ⟨E, ρ, q, env, hq, kk⟩
  refine ⟨E, ρ, _, env, hq, fun x hx u H1 x1 hu => ?_⟩
  have e1 := env.step x1
  obtain ⟨h1, h3⟩ := hx
  cases x with
  | obj c ns xs =>
    dsimp only at h1
    subst h1
    have args : ArgsOk ⟨F.K, E, H1, F.src, []⟩ E H1 [u] [.im (.obj c ns xs)] := ⟨hu, trivial⟩
    have sp : spD X.K 1 tf [u] H1 (fun v H' => ∃ n : Int, v = .int n ∧ (0 ≤ n ∧ n < 2 ^ 63) ∧ Q (.int n) H') (fun _ _ _ => False) := by
      refine ⟨⟨F.K, E, H1, F.src, []⟩, _, _, hF, rfl, rfl, fun b hb => e1.we hb, e1.live, e1.so, rfl, args, h3, fun d hd z H' x3 hz => ?_⟩
      obtain ⟨n, rfl, hn, hr⟩ := hd
      exact ⟨n, hz, hn, kk _ hr (.int n) H' (x1.trans x3) rfl⟩
    obtain ⟨a', dx, fs, rfl, n1, t1, m1, g1⟩ := hu
    exact ⟨a', dx, fs, rfl, t1, sp⟩
  | _ => exact h1.elim
@[simp] theorem x_dlenM {C : Addr} {tf : RF} {ta : RE} {ρ : Rho} {q : D → Prop} : dlenM C tf ta ρ q = ta ρ fun x => (match x with | .obj c _ _ => c = C | _ => False) ∧ tf [.im x] (fun d => ∃ n : Int, d = .int n ∧ (0 ≤ n ∧ n < 2 ^ 63) ∧ q (.int n)) := rfl
theorem kit_own {K : PySem.W.Frag} {C : Addr} : PySem.W.kitOne K (.ref C) (.ref C) = some true := by
  unfold PySem.W.kitOne
  rw [if_pos (by simp)]
theorem kit_tyC {K : PySem.W.Frag} {C : Addr} {T : String} {b : Bool} (hd : PySem.W.hasDictIn K C = true) (ht : PySem.W.typeIn K (.ref C) = some (.type "type")) (h : PySem.W.subIn K (.type T) (.ref C) = some b) : PySem.W.kitOne K (.type T) (.ref C) = some b := by
  unfold PySem.W.kitOne
  rw [if_neg (by intro e; cases (eq_of_beq e))]
  obtain ⟨cd, hc, _⟩ := PySem.W.any_some hd
  show (if ((PySem.W.clsIn K C).isSome && PySem.W.typeIn K (.ref C) == some (.type "type")) = true then PySem.W.subIn K (.type T) (.ref C) else none) = some b
  rw [hc, ht]
  have q : ((some cd).isSome && some (Value.type "type") == some (Value.type "type")) = true := by simp
  rw [if_pos q, h]
end DL

set_option Elab.async false
set_option linter.all false
set_option maxRecDepth 100000
set_option maxHeartbeats 4000000
/-! a for over a name's body has a token out; two statements with a text whose token is known: `x, y = t * n, [..]` and `z.append(y[0] + w.replace(t, x) + y[1])` -/
namespace DL
open PySem L2 PySem.Spec PyProof.Rows
variable {X : Cx} {pins : List (Addr × Obj)} {σ : L2.St} {H : Hp} {s : Shared}
/-- a local name is stored: what the name holds is known, one token more is out -/
theorem store_tok {M : Model} {A : Around} {E : Value → Shared → Prop} {i : Nat} {x : Str} {v : V} {u : Value} {Q : Unit → Shared → Prop} (I : Inv X pins σ H s) (hN : X.N.Nodup) (hi : X.N[i]? = some x)
    (hk : X.env.scope.names.lookup x = some .local) (r : RelV v u)
    (h : ∀ s' m, Inv X pins (σ.set i (some v)) H s' → s'.heap.Ns X.env.locals m → m x = some u → s'.toks = s.toks + 1 → Q () s') : wpAny M A (storeName X.env x u) Q E s := by
  have hloc := I.loc
  obtain ⟨m, hn, hl⟩ := hloc
  have plain : (X.env.scope.kind == .class || (X.env.scope.kind == .module && X.env.locals != X.env.globals)) = false := by
    rw [I.ok.kind]; rfl
  refine wpAny_storeName_local hk hn (fun h' hn' same => h _ _ ?_ hn' (if_pos rfl) rfl) plain
  have other : ∀ b, b ≠ X.env.locals → h'.get? b = s.heap.get? b := same.2
  have old : ∀ b o, X.s_0.heap.get? b = some o → h'.get? b = s.heap.get? b := fun b o e => other b (Nat.ne_of_lt (Nat.lt_of_lt_of_le (Heap.lt_size e) I.ok.above))
  have cells : ∀ y c w, X.env.cells.lookup y = some c → s.heap.IsCell c w → h'.IsCell c w := fun y c w e z => z.sameBut same (I.cne y c e)
  obtain ⟨oL, _, _, hoL, _⟩ := id hn
  have lt : i < σ.length := by rw [I.len]; exact (List.getElem?_eq_some_iff.mp hi).1
  constructor
  · exact I.ok
  · exact I.os
  · exact I.bare
  · exact ⟨fun b o e n hb hx => (old b o e).trans (I.base.keep b o e n hb hx), fun b o e n hb hx => (I.base.slot b o e n hb hx).imp fun _ z => (old b o e).trans z, I.base.free,
      fun b o e hx => (I.base.there b o e hx).imp fun _ z => (old b o e).trans z, I.base.tups, I.base.frzs, I.base.tbls⟩
  · refine ⟨_, hn', fun j y w e1 e2 e3 => ?_⟩
    by_cases e : j = i
    · rw [e, hi] at e1
      rw [e, List.getElem?_set_self lt] at e2
      cases e1; cases e2
      exact ⟨u, r, .inl ⟨hk, if_pos rfl⟩⟩
    · rw [List.getElem?_set_ne (Ne.symm e)] at e2
      obtain ⟨z, hz, q⟩ := hl j y w e1 e2 e3
      have ny : y ≠ x := fun q => e (nodup_ix hN e1 (q ▸ hi))
      refine ⟨z, hz, q.elim (fun q => .inl ⟨q.1, (if_neg ny).trans q.2⟩) fun ⟨k, c, ec, hc⟩ => .inr ⟨k, c, ec, cells y c _ ec hc⟩⟩
  · exact fun y c e => (I.cell y c e).imp fun w z => cells y c w e z
  · exact I.free
  · exact I.freeC
  · intro p hp
    obtain ⟨e, n, ne, rest⟩ := I.pin p hp
    exact ⟨(other p.1 ne).trans e, n, ne, rest⟩
  · intro b ob e
    refine (I.hok b ob e).stay (fun c w hc q => (other c ?_).trans q) (fun _ q => q) fun _ _ q => q
    rintro rfl
    rcases hc with rfl | hc
    · rw [I.free] at e; cases e
    · rw [I.free] at hc; cases hc
  · rw [List.length_set]; exact I.len
theorem thnT {α : Type} {t : Sem α} {Q Q' : α → Shared → Prop} {M : Model} {A : Around} {E : Value → Shared → Prop} {s : Shared} {n : Nat} (hn : n ≤ s.toks) (h : wpAny M A t Q E s) (hQ : ∀ a s', n ≤ s'.toks → Q a s' → Q' a s') : wpAny M A t Q' E s :=
  wpAny_mono (wpAny_toks_of hn h) (fun a s' q => hQ a s' q.1 q.2) fun _ _ q => q.2
/-- a loop over one local name: each item's store gives a token out, so the body may ask for one -/
theorem ps_forN {i : Nat} {x : Str} {px pos : Pos} {iter : Expr} {body : List Stmt} {wi : TI} {tb : TS} (hp : PassesOwn (model X.prog X.w) X.A X.env X.xe) (hc : X.calm = true) (hN : X.N.Nodup) (hi : X.N[i]? = some x)
    (hk : X.env.scope.names.lookup x = some .local) (walk : PI X (.Name x px) iter wi) (hb : PSsT X body tb) (hs : ∀ z, foldedSetIterable iter X.env z = pure z := by intro _; rfl) :
    PS X (.For (.Name x px) iter body [] pos) (tFor wi (gName i) tb) := by
  constructor
  intro pins s σ H D I h
  refine wpAny_For (thn (walk.run pins s σ H _ I h) fun v s1 h1 => thn h1 fun itv s2 h2 => ?_) hs
  obtain ⟨it, fp, tn, J, H2, ev, I2, T, at2, own, W, ⟨m0, w0⟩, turn⟩ := h2
  subst ev
  let Inside : Nat → Shared → Prop := fun n z => ∃ k τ G, Inv X pins τ G z ∧ tn k z.heap ∧ (∀ b ∈ fp, G b = none) ∧ W k n τ G
  have mine : ∀ {G : Hp}, (∀ b ∈ fp, G b = none) → ∀ b ∈ fp, FpOk X pins G b := fun free b hb => ⟨free b hb, (own b hb).2⟩
  refine codeAny_forLoop_any Inside ?_ m0 ⟨0, σ, H2, I2, at2, fun b hb => (own b hb).1, w0⟩
  rintro n s3 ⟨k, τ, G, I3, at3, free3, w3⟩
  rcases turn k n τ G w3 with ⟨stop, out⟩ | ⟨go, N, less, step⟩
  · refine wpAny_passesOwn hp (thn (T.done X rfl rfl rfl hc k pins s3 τ G X.xe I3 (mine free3) at3 stop) fun res s4 h4 => ?_)
    obtain ⟨e, I4⟩ := h4
    subst e
    exact wpAny_execs_nil ⟨τ, G, I4, out⟩
  refine wpAny_passesOwn hp (thn (T.item X rfl rfl rfl hc k pins s3 τ G X.xe I3 (mine free3) at3 go) fun res s4 h4 => ?_)
  obtain ⟨u, e, h4⟩ := h4
  subst e
  refine wpAny_passesOwn hp (thn h4 fun _ s5 h5 => ?_)
  obtain ⟨y, G5, I5, ry, gave, at5, free5⟩ := h5
  have pinned := I5.pinned (mine free5) (T.obj _ _ at5)
  refine wpAny_passesOwn hp (wpAny_assign_Name (store_tok pinned hN hi hk ry fun s6 _ I6 _ _ tk => ?_))
  have next : ∀ {τ' : L2.St} {G' : Hp} {z : Shared}, Inv X (pins ++ pinsAt fp s5.heap) τ' G' z → N τ' G' → ∃ n', n' < n ∧ Inside n' z := by
    intro τ' G' z Iz nz
    obtain ⟨n', hlt, wz⟩ := less τ' G' nz
    have pin : ∀ b ∈ fp, ∀ o, s5.heap.get? b = some o → z.heap.get? b = some o ∧ G' b = none := fun b hb o e =>
      ⟨(Iz.pin (b, o) (List.mem_append_right _ (List.mem_append_right _ (mem_pinsAt hb e)))).1, (Iz.pin (b, o) (List.mem_append_right _ (List.mem_append_right _ (mem_pinsAt hb e)))).2.1⟩
    refine ⟨n', hlt, k + 1, τ', G', Iz.unpinned, T.keep _ _ _ at5 fun b hb o e => (pin b hb o e).1, fun b hb => ?_, wz⟩
    obtain ⟨o, e, _⟩ := T.obj _ _ at5 b hb
    exact (pin b hb o e).2
  refine wpAny_passesOwn hp (thn (hb _ s6 _ _ _ (by omega) I6 (step y G5 gave)) fun f s7 h7 => ?_)
  cases f with
  | next => obtain ⟨τ', G', I7, h7⟩ := h7; exact next I7 h7
  | cont => obtain ⟨τ', G', I7, h7⟩ := h7; exact next I7 h7
  | brk => obtain ⟨τ', G', I7, h7⟩ := h7; exact ⟨τ', G', I7.unpinned, h7⟩
  | ret v => obtain ⟨y', τ', G', I7, r7, h7⟩ := h7; exact ⟨y', τ', G', I7.unpinned, r7, h7⟩
def SsDT (X : Cx) (b : List Stmt) (t : RS) : Prop := ∀ F : Fx, F.K = X.K → PSsT X b (liftS F t)
theorem s_forN {i : Nat} {x : Str} {px pos : Pos} {iter : Expr} {tl : RL} {tb : RS} {body : List Stmt} (hp : PassesOwn (model X.prog X.w) X.A X.env X.xe) (hc : X.calm = true) (hN : X.N.Nodup) (hi : X.N[i]? = some x)
    (hk : X.env.scope.names.lookup x = some .local) (walk : ID X (.Name x px) iter tl) (hb : SsDT X body tb)
    (hs : ∀ x, foldedSetIterable iter X.env x = pure x := by intro _; rfl) : SD X (.For (.Name x px) iter body [] pos) (sfor tl (.one i) tb) := fun F hF => by
  have hb' : PSsT X body (fun D_ σ H => ∃ v d, liftS (F.hold v d) tb D_ σ H) := fun pins s σ H D_ h0 I ⟨v, d, q⟩ => hb (F.hold v d) hF pins s σ H D_ h0 I q
  refine (ps_forN hp hc hN hi hk (walk F hF) hb' hs).imp fun D_ σ H => ?_
  rintro ⟨E, ρ, Z, env, h, sv⟩
  refine ⟨E, ρ, _, env, h, fun ds hds J H1 hv hd x1 hdn wk => ?_⟩
  have W := wk (F.hold hv hd) rfl rfl
  refine ⟨fun j m σ H => m = ds.length - j ∧ j ≤ ds.length ∧ ∃ E ρ, DEnv (F.hold hv hd) E σ H ρ ∧ fordo (.one i) tb Z (ds.drop j) ρ, ⟨ds.length, rfl, Nat.zero_le _, E, ρ, (env.step x1).hold hdn, hds⟩, ?_⟩
  rintro j m σ H ⟨rfl, hi, E, ρ, env, hr⟩
  obtain ⟨w1, w2⟩ := W E H env.at_ env.heldAt
  by_cases hlt : j < ds.length
  · have hget : ds[j]? = some ds[j] := List.getElem?_eq_getElem hlt
    rw [List.drop_eq_getElem_cons hlt] at hr
    obtain ⟨hgo, hy⟩ := w1 j _ hget
    refine .inr ⟨hgo, fun σ' H' => ∃ E ρ, DEnv (F.hold hv hd) E σ' H' ρ ∧ fordo (.one i) tb Z (ds.drop (j + 1)) ρ, fun σ' H' q => ⟨_, Nat.sub_lt_sub_left hlt (Nat.lt_succ_self j), rfl, hlt, q⟩, fun x H' hx => ?_⟩
    obtain ⟨sm, dx⟩ := hy x H' hx
    have e2 := (env.step (XExt.same env.so sm)).set (i := i) dx
    refine ⟨hv, hd, E, _, _, e2, hr, ⟨fun ρ2 h2 E2 σ2 H2 env2 => ⟨E2, ρ2, env2, h2⟩, fun d hd' v H2 x2 dv => sv.rt d hd' v H2 x2 dv, fun ρ2 h2 E2 σ2 H2 env2 => sv.nx ρ2 h2 E2 σ2 H2 env2.drop, fun ρ2 h2 E2 σ2 H2 env2 => ⟨E2, ρ2, env2, h2⟩⟩⟩
  · have hil : j = ds.length := by omega
    rw [hil, List.drop_length] at hr
    exact .inl ⟨w2 j (by omega), sv.nx _ hr E σ H env.drop⟩

/-! ### the two statements -/
theorem mul_tok {prog : Program} {w : World} {A : Around} {E : Value → Shared → Prop} {s : Shared} {x : Str} {n : Int} {t u : Tok} {Q : Value → Shared → Prop} (h1 : 1 ≤ t) (h2 : t < s.toks) (hn0 : -1000 ≤ n) (hn1 : n ≤ 1000) (hl : x.length ≤ 1000)
    (q : ∀ tk k, 1 ≤ tk → tk < k → Q (.str (repS x n) tk) { s with toks := k }) : wpAny (model prog w) A (binaryOp .Mult (.str x t) (.int n u)) Q E s := by
  refine PySem.P.mul_str (by rw [decide_eq_false (by omega), decide_eq_false (by omega)]; rfl) (fun h2 h3 => ?_) (fun h2 h3 => ?_) ?_
  · have : (1000 : Int) ≤ (2 ^ 63 - 1) / n := Int.le_ediv_of_mul_le (by omega) (by omega)
    omega
  · unfold Builtin.Str.tooLong
    have h5 : x.length * n.toNat ≤ 1000 * 1000 := Nat.mul_le_mul hl (by omega)
    rw [sizeLine_eq]
    exact decide_eq_false (by omega)
  · unfold repS at q
    by_cases c1 : n < 1
    · rw [if_pos c1] at q ⊢
      exact ⟨by decide, q _ _ (Nat.le_trans h1 (Nat.le_of_lt h2)) (Nat.lt_succ_self _)⟩
    · rw [if_neg c1] at q ⊢
      by_cases c2 : (n == 1 || x.length == 0) = true
      · rw [if_pos c2] at q ⊢
        exact q t s.toks h1 h2
      · rw [if_neg c2] at q ⊢
        refine ⟨?_, q _ _ (Nat.le_trans h1 (Nat.le_of_lt h2)) (Nat.lt_succ_self _)⟩
        show (List.foldl (fun x1 x2 => x1 ++ x2) #[] (List.replicate n.toNat x.cps)).size ≤ sizeLine
        rw [fold_size, sizeLine_eq]
        have h5 : n.toNat * x.cps.size ≤ 1000 * 1000 := Nat.mul_le_mul (by omega) hl
        simp
        omega
/-- no reader has booked a token: K tells it -/
def NoBook (K : PySem.W.Frag) : Prop := PySem.W.nsIn K cStatics sharingNotToldKey = some none
theorem NoBook.at {X : Cx} {pins : List (Addr × Obj)} {σ : L2.St} {H : Hp} {s : Shared} (n : NoBook X.K) (I : Inv X pins σ H s) : NoneBooked s.heap := by
  obtain ⟨mc, hn, _⟩ := I.nolimit
  refine ⟨mc, hn, ?_⟩
  obtain ⟨o, es, ep, ho, hd, hk, hf⟩ := hn
  unfold NoBook PySem.W.nsIn at n
  split at n
  · rename_i c d es' n' sl q
    have e := I.kIn _ _ q
    rw [ho] at e
    cases e
    cases hd
    rw [← hf]
    split at n
    · cases n
    · rename_i hnone
      unfold nsFind findBy
      rw [← Array.find?_toList, hnone]
      rfl
  · cases n
theorem app_repl {iw ie il : Nat} {xw xe xl xr : Str} {c a b x z : Str} {p ae : Addr} {xs : List V} {tk : Tok} {m : Str → Option Value} {D : Ends} {j2 j3 j4 : Nat} {pw apos q1 q2 q3 q4 q5 q6 q7 q8 q9 q10 q11 rpos cpos2 cpos spos : Pos}
    (hNw : X.N[iw]? = some xw) (hNe : X.N[ie]? = some xe) (hNl : X.N[il]? = some xl) (vw : X.env.scope.names.lookup xw = some .local) (ve : X.env.scope.names.lookup xe = some .local) (vl : X.env.scope.names.lookup xl = some .local) (vr : X.env.scope.names.lookup xr = some .local)
    (dw : (xw == ("__debug__" : Str)) = false) (cw : (xw == ("__classdict__" : Str)) = false) (de : (xe == ("__debug__" : Str)) = false) (ce : (xe == ("__classdict__" : Str)) = false) (dl : (xl == ("__debug__" : Str)) = false) (cl : (xl == ("__classdict__" : Str)) = false) (dr : (xr == ("__debug__" : Str)) = false)
    (nb : NoBook X.K) (I : Inv X pins σ H s) (hm : s.heap.Ns X.env.locals m) (hr : m xr = some (.str z tk)) (h1 : 1 ≤ tk) (h2 : tk < s.toks)
    (hσe : σ[ie]? = some (some (.ref ae))) (sq : SqL X.K H ae [.str a, .str b]) (hσl : σ[il]? = some (some (.str x))) (hσw : σ[iw]? = some (some (.ref p))) (hp : H p = some (.lst xs))
    (hb : x.length + (x.length + 1) * z.length ≤ 16777216) (hb1 : a.length + (Txt.replace x c z).length ≤ sizeLine) (hb2 : (a ++ Txt.replace x c z).length + b.length ≤ sizeLine) (hlen : xs.length < sizeLine)
    (fin : D.nx σ (upd H p (.lst (xs ++ [.str (a ++ Txt.replace x c z ++ b)]))))
    (hst : starEach [.Constant (.str c) j3 q5, .Name xr q6] X.env = [(false, eval (.Constant (.str c) j3 q5) X.env), (false, eval (.Name xr q6) X.env)] := by rfl)
    (hbase : attributeBase (.Name xl q4) "replace" X.env (eval (.Name xl q4) X.env) = eval (.Name xl q4) X.env := by rfl) (hline : (rpos.endLine == cpos2.line) = true := by rfl)
    (hbasew : attributeBase (.Name xw pw) "append" X.env (eval (.Name xw pw) X.env) = eval (.Name xw pw) X.env := by rfl) (hlinew : (apos.endLine == cpos.line) = true := by rfl)
    (hsw : ∀ e, swapsWith (.Call (.Attribute (.Name xw pw) "append" apos) [e] [] cpos) none spos.line X.env = pure false := by intro _; rfl) :
    wpAny (model X.prog X.w) X.A (execs [.Expr (.Call (.Attribute (.Name xw pw) "append" apos) [.BinOp (.BinOp (.Subscript (.Name xe q1) (.Constant (.int 0) j2 q2) q3) .Add (.Call (.Attribute (.Name xl q4) "replace" rpos) [.Constant (.str c) j3 q5, .Name xr q6] [] cpos2) q7) .Add
      (.Subscript (.Name xe q8) (.Constant (.int 1) j4 q9) q10) q11] [] cpos) spos] X.env) (SP X pins D) X.xe s := by
  have lst : ∀ {s' : Shared}, Inv X pins σ H s' → ∃ ta tb, s'.heap.IsList ae #[.str a ta, .str b tb] := fun I' => by
    obtain ⟨its, rv, pl, _⟩ := I'.list sq
    obtain ⟨u, v, rfl, ⟨ta, rfl⟩, ⟨tb, rfl⟩⟩ := rv.two
    exact ⟨ta, tb, pl.isList⟩
  refine wpAny_execs_cons (wpAny_Expr_any ?_ I.quiet (hsw _))
  refine wpAny_Call_method_late hbasew rfl hlinew rfl (raw_name hNw (.inl vw) I hσw (fun v r => ?_) dw cw)
  have ev : v = Value.ref p := r
  subst ev
  obtain ⟨ty1, ty2⟩ := tyV_is (T := "list") (x := .ref p) I rfl (.inl ⟨rfl, xs, SqL.of hp⟩)
  refine ⟨"list", _, PySem.F.plainAttrs_list, PySem.F.slot_list_append, PySem.F.type_list_append, ty1, ty2, Calls.callWith_builtin rfl (Calls.evalArgs_plain ?_)⟩
  refine Calls.spliced_cons (wpAny_BinOp (wpAny_BinOp ?_))
  obtain ⟨ta, tb, il0⟩ := lst I
  have e0 : wpAny (model X.prog X.w) X.A (eval (.Subscript (.Name xe q1) (.Constant (.int 0) j2 q2) q3) X.env) (fun w s' => w = .str a ta ∧ ∃ k, s' = { s with toks := k }) X.xe s :=
    raw_ix hNe (.inl ve) I hσe il0 (by omega) (by omega) rfl (fun k => ⟨rfl, k, rfl⟩) (fun _ _ => rfl) de ce
  refine thnT (n := tk + 1) h2 e0 fun w s1 hk1 h => ?_
  obtain ⟨rfl, k1, rfl⟩ := h
  refine PySem.Call_method2 hbase hst hline (raw_name hNl (.inl vl) (I.tok k1) hσl (fun v r => ?_) dl cl)
  obtain ⟨tx, rfl⟩ := r
  refine ⟨"str", _, PySem.F.plainAttrs_str, PySem.F.slot_str_replace, PySem.F.type_str_replace, typeIs_str _ _ _, (fun _ e => nomatch e), Calls.callWith_builtin rfl (Calls.evalArgs_plain (Calls.spliced_cons (Calls.Constant_str ?_)))⟩
  refine Calls.spliced_cons (wpAny_Name (wpAny_loadName_local I.ok.kind vr hm hr ?_) dr)
  refine Calls.spliced_nil ?_
  have hlt : tk < k1 := hk1
  refine PySem.SC.replaceA (u := k1) (v := tk) (Nat.ne_of_gt (Nat.lt_of_le_of_lt (Nat.zero_le _) hlt)) (Nat.ne_of_gt h1) (Nat.ne_of_gt hlt) hb (fun t' k => ?_) (show NoneBooked s.heap from nb.at I)
  refine thn (op_add_str pins _ σ H (.str a) (.str (Txt.replace x c z)) _ _ (fun v H' => v = .str (a ++ Txt.replace x c z) ∧ H' = H) (I.tok k) ⟨ta, rfl⟩ ⟨t', rfl⟩ ⟨_, _, rfl, rfl, hb1, rfl, rfl⟩) fun u3 s3 h => ?_
  obtain ⟨_, H3, I3, r3, rfl, e3⟩ := h
  rw [e3] at I3
  obtain ⟨ta3, tb3, il3⟩ := lst I3
  refine raw_ix hNe (.inl ve) I3 hσe il3 (by omega) (by omega) rfl (fun k4 => ?_) (fun _ _ => rfl) de ce
  refine thn (op_add_str pins _ σ H (.str (a ++ Txt.replace x c z)) (.str b) _ _ (fun v H' => v = .str (a ++ Txt.replace x c z ++ b) ∧ H' = H) (I3.tok k4) r3 ⟨tb3, rfl⟩ ⟨_, _, rfl, rfl, hb2, rfl, rfl⟩) fun u5 s5 h => ?_
  obtain ⟨_, H5, I5, r5, rfl, e5⟩ := h
  rw [e5] at I5
  refine Calls.spliced_nil ?_
  refine thn (mt_append pins s5 σ H (.ref p) [.str (a ++ Txt.replace x c z ++ b)] (.ref p) [u5] (fun v H' => D.nx σ H') I5 rfl (.cons r5 .nil) ⟨p, xs, _, rfl, rfl, hp, hlen, fin⟩) fun u6 s6 h => ?_
  obtain ⟨_, _, I6, _, q⟩ := h
  exact wpAny_execs_nil ⟨σ, _, I6, q⟩
/-- x, y = c * n, [a, b] and behind it z.append(y[0] + w.replace(c, x) + y[1]) -/
def sreplW (ir ie il iw : Nat) (c : Str) (tc tb : RE) : RS := fun Z ρ => tc ρ fun d => match d with
  | .int n => (-1000 ≤ n ∧ n ≤ 1000) ∧ tb ρ fun e => (match e with
    | .lst [.str a, .str b] => (match ρ[il]?, ρ[iw]? with
      | some (some (.im (.str x))), some (some (.ml ds)) => (x.length + (x.length + 1) * (repS c n).length ≤ 16777216 ∧ a.length + (Txt.replace x c (repS c n)).length ≤ sizeLine ∧ (a ++ Txt.replace x c (repS c n)).length + b.length ≤ sizeLine ∧ ds.length < sizeLine) ∧
        Z.nx (((ρ.set ie (some (.im (.lst [.str a, .str b])))).set ir (some (.im (.str (repS c n))))).set iw (some (.ml (ds ++ [.str (a ++ Txt.replace x c (repS c n) ++ b)]))))
      | _, _ => False)
    | _ => False)
  | _ => False
theorem ss_replW {ir ie il iw : Nat} {xr xe xl xw : Str} {c : Str} {cnt b : Expr} {tc tb : RE} {j1 j2 j3 j4 kt k2 : Nat} {pr pe pt pt2 p1 p2 pos pw apos q1 q2 q3 q4 q5 q6 q7 q8 q9 q10 q11 rpos cpos2 cpos spos : Pos} (nb : NoBook X.K) (hcalm : X.calm = true) (hN : X.N.Nodup)
    (hNr : X.N[ir]? = some xr) (hNe : X.N[ie]? = some xe) (hNl : X.N[il]? = some xl) (hNw : X.N[iw]? = some xw) (hre : ir ≠ ie) (hrl : ir ≠ il) (hrw : ir ≠ iw) (hel : ie ≠ il) (hew : ie ≠ iw)
    (vr : X.env.scope.names.lookup xr = some .local) (ve : X.env.scope.names.lookup xe = some .local) (vl : X.env.scope.names.lookup xl = some .local) (vw : X.env.scope.names.lookup xw = some .local)
    (hc : ED X cnt tc) (hbE : ED X b tb) (hcl : c.length ≤ 1000)
    (hw : swappedStores [.Tuple [.Name xr pr, .Name xe pe] kt pt] (.Tuple [.BinOp (.Constant (.str c) j1 p1) .Mult cnt p2, b] k2 pt2) X.env = pure (some [xr, xe]))
    (dw : (xw == ("__debug__" : Str)) = false := by decide) (cw : (xw == ("__classdict__" : Str)) = false := by decide) (de : (xe == ("__debug__" : Str)) = false := by decide) (ce : (xe == ("__classdict__" : Str)) = false := by decide)
    (dl : (xl == ("__debug__" : Str)) = false := by decide) (cl : (xl == ("__classdict__" : Str)) = false := by decide) (dr : (xr == ("__debug__" : Str)) = false := by decide)
    (hsA : starEach [.BinOp (.Constant (.str c) j1 p1) .Mult cnt p2, b] X.env = (false, eval (.BinOp (.Constant (.str c) j1 p1) .Mult cnt p2) X.env) :: starEach [b] X.env := by rfl) (hsB : starEach [b] X.env = (false, eval b X.env) :: starEach [] X.env := by rfl)
    (hs : swapsWithSole [.Tuple [.Name xr pr, .Name xe pe] kt pt] (.Tuple [.BinOp (.Constant (.str c) j1 p1) .Mult cnt p2, b] k2 pt2) pos.line X.env = pure false := by rfl)
    (hst : starEach [.Constant (.str c) j3 q5, .Name xr q6] X.env = [(false, eval (.Constant (.str c) j3 q5) X.env), (false, eval (.Name xr q6) X.env)] := by rfl)
    (hbase : attributeBase (.Name xl q4) "replace" X.env (eval (.Name xl q4) X.env) = eval (.Name xl q4) X.env := by rfl) (hline : (rpos.endLine == cpos2.line) = true := by rfl)
    (hbasew : attributeBase (.Name xw pw) "append" X.env (eval (.Name xw pw) X.env) = eval (.Name xw pw) X.env := by rfl) (hlinew : (apos.endLine == cpos.line) = true := by rfl)
    (hsw : ∀ e, swapsWith (.Call (.Attribute (.Name xw pw) "append" apos) [e] [] cpos) none spos.line X.env = pure false := by intro _; rfl) :
    SsDT X [.Assign [.Tuple [.Name xr pr, .Name xe pe] kt pt] (.Tuple [.BinOp (.Constant (.str c) j1 p1) .Mult cnt p2, b] k2 pt2) pos,
      .Expr (.Call (.Attribute (.Name xw pw) "append" apos) [.BinOp (.BinOp (.Subscript (.Name xe q1) (.Constant (.int 0) j2 q2) q3) .Add (.Call (.Attribute (.Name xl q4) "replace" rpos) [.Constant (.str c) j3 q5, .Name xr q6] [] cpos2) q7) .Add
      (.Subscript (.Name xe q8) (.Constant (.int 1) j4 q9) q10) q11] [] cpos) spos] (sreplW ir ie il iw c tc tb) := by
  intro F hF pins s σ H D_ h0 I h
  obtain ⟨E, ρ, Z, env, h, sv⟩ := h
  refine wpAny_execs_cons ?_
  rw [exec_Assign_arm]
  refine wpAny_bind (wpAny_standAt ?_)
  rw [hs]
  refine wpAny_bind (wpAny_pure ?_)
  rw [if_neg (by decide)]
  refine wpAny_bind (Tuple_ ?_)
  rw [hsA]
  show wpAny _ _ (spliced ((false, eval (.BinOp (.Constant (.str c) j1 p1) .Mult cnt p2) X.env) :: backTo pt2 (starEach [b] X.env))) _ _ s
  refine Calls.spliced_cons (wpAny_BinOp (Calls.Constant_str ?_))
  refine thnT (n := s.toks + 1) (Nat.le_refl _) ((hc F hF).run pins { s with toks := s.toks + 1 } σ H (fun v H1 => ∃ d, (match d with
    | .int n => (-1000 ≤ n ∧ n ≤ 1000) ∧ tb ρ fun e => (match e with
      | .lst [.str a, .str b] => (match ρ[il]?, ρ[iw]? with
        | some (some (.im (.str x))), some (some (.ml ds)) => (x.length + (x.length + 1) * (repS c n).length ≤ 16777216 ∧ a.length + (Txt.replace x c (repS c n)).length ≤ sizeLine ∧ (a ++ Txt.replace x c (repS c n)).length + b.length ≤ sizeLine ∧ ds.length < sizeLine) ∧
          Z.nx (((ρ.set ie (some (.im (.lst [.str a, .str b])))).set ir (some (.im (.str (repS c n))))).set iw (some (.ml (ds ++ [.str (a ++ Txt.replace x c (repS c n) ++ b)]))))
        | _, _ => False)
      | _ => False)
    | _ => False) ∧ XExt F H H1 ∧ Dn F.K E H1 d v) (I.tok _) ⟨E, ρ, _, env, h, fun d hd v H1 x1 hv => ⟨d, hd, x1, hv⟩⟩) fun u s2 hk2 h2 => ?_
  obtain ⟨v, H1, I1, rv, d, hd, x1, hv⟩ := h2
  cases d with
  | int n =>
    have e1 : v = .int n := hv
    subst e1
    obtain ⟨tn, rfl⟩ := rv
    obtain ⟨⟨hn0, hn1⟩, hd⟩ := hd
    refine mul_tok h0 (Nat.lt_of_lt_of_le (Nat.lt_succ_self _) hk2) hn0 hn1 hcl fun tk k hk hlt => ?_
    rw [hsB]
    show wpAny _ _ (spliced ((false, eval b X.env) :: backTo pt2 (starEach [] X.env))) _ _ _
    refine Calls.spliced_cons ?_
    have env1 := env.step x1
    refine thnT (n := k) (Nat.le_refl _) ((hbE F hF).run pins { s2 with toks := k } σ H1 (fun v H2 => ∃ e, (match e with
      | .lst [.str a, .str b] => (match ρ[il]?, ρ[iw]? with
        | some (some (.im (.str x))), some (some (.ml ds)) => (x.length + (x.length + 1) * (repS c n).length ≤ 16777216 ∧ a.length + (Txt.replace x c (repS c n)).length ≤ sizeLine ∧ (a ++ Txt.replace x c (repS c n)).length + b.length ≤ sizeLine ∧ ds.length < sizeLine) ∧
          Z.nx (((ρ.set ie (some (.im (.lst [.str a, .str b])))).set ir (some (.im (.str (repS c n))))).set iw (some (.ml (ds ++ [.str (a ++ Txt.replace x c (repS c n) ++ b)]))))
        | _, _ => False)
      | _ => False) ∧ XExt F H1 H2 ∧ Dn F.K E H2 e v) (I1.tok _) ⟨E, ρ, _, env1, hd, fun e he v H2 x2 hv => ⟨e, he, x2, hv⟩⟩) fun u2 s3 hk3 h3 => ?_
    obtain ⟨v2, H2, I2, rv2, e, he, x2, hv2⟩ := h3
    split at he
    · rename_i a b2
      split at he
      · rename_i x ds hil hiw
        obtain ⟨⟨hb, hb1, hb2, hlen⟩, hz⟩ := he
        refine Calls.spliced_nil ?_
        refine wpAny_newObj_type ?_ (by show 2 ≤ sizeLine; decide)
        have I3 : Inv X pins σ H2 { s3 with heap := s3.heap.push { cls := .type "tuple", data := .seq [Value.str (repS c n) tk, u2].toArray } } := I2.kept (t' := s3.toks) fun b o e => Heap.get?_push_of_some _ e
        rw [hw]
        refine wpAny_bind (wpAny_pure ?_)
        show wpAny (model X.prog X.w) X.A (do rule "assign.swapped-stores"; let items ← unpackItems (.ref s3.heap.objs.size) 2 none; assignInOrder [fun v => bindName X.env xe v, fun v => bindName X.env xr v] items.reverse; pure Flow.next) _ _ _
        refine wpAny_bind (wpAny_rule (wpAny_bind (unpackItems_tuple (items := #[Value.str (repS c n) tk, u2]) (I.ok.hd hcalm) (IsTup.new s3.heap _) fun h' hx' => ?_)))
        have I4 := I3.kept (h' := h') (t' := s3.toks) fun b o e => hx' b o (Nat.ne_of_lt (Heap.lt_size e)) e
        show wpAny _ _ (assignInOrder [fun v => bindName X.env xe v, fun v => bindName X.env xr v] [u2, Value.str (repS c n) tk] >>= fun _ => pure Flow.next) _ _ _
        refine wpAny_bind (assignInOrder_cons (wpAny_bindName (store_tok I4 hN hNe ve rv2 fun s5 _ I5 _ _ tk5 => ?_)))
        refine assignInOrder_cons (wpAny_bindName (store_tok I5 hN hNr vr (v := .str (repS c n)) ⟨tk, rfl⟩ fun s6 m I6 hm hr tk6 => assignInOrder_nil (wpAny_pure ?_)))
        have env2 := (env1.step x2).set (i := ie) hv2
        have env3 := env2.set (i := ir) (d := .str (repS c n)) (v := .str (repS c n)) rfl
        have hil' : ((ρ.set ie (some (Sl.im (.lst [.str a, .str b2])))).set ir (some (Sl.im (.str (repS c n)))))[il]? = some (some (.im (.str x))) := by
          rw [List.getElem?_set_ne hrl, List.getElem?_set_ne hel]; exact hil
        have hiw' : ((ρ.set ie (some (Sl.im (.lst [.str a, .str b2])))).set ir (some (Sl.im (.str (repS c n)))))[iw]? = some (some (.ml ds)) := by
          rw [List.getElem?_set_ne hrw, List.getElem?_set_ne hew]; exact hiw
        obtain ⟨vx, hσl, dx⟩ := env3.sl il _ hil'
        have evx : vx = .str x := dx
        subst evx
        obtain ⟨vp, hσw, p, xs, ev, hE, hB, hh0, hp, ha⟩ := env3.sl iw _ hiw'
        subst ev
        obtain ⟨ae, ys, rfl, hsq, hda⟩ := id hv2
        have hys : ys = [.str a, .str b2] := by
          obtain ⟨y1, r1, e1, g1, y2, r2, e2, g2, e3⟩ := hda
          have g1' : y1 = .str a := g1
          have g2' : y2 = .str b2 := g2
          have e3' : r2 = [] := e3
          rw [e1, e2, e3', g1', g2']
        subst hys
        have hσe : (((σ.set ie (some (V.ref ae))).set ir (some (V.str (repS c n)))))[ie]? = some (some (.ref ae)) := by
          have hlt : ie < σ.length := by rw [I.len]; exact (List.getElem?_eq_some_iff.mp hNe).1
          rw [List.getElem?_set_ne hre, List.getElem?_set_self hlt]
        have t6 : tk < s6.toks := by
          have z5 : s5.toks = s3.toks + 1 := tk5
          have z6 : s6.toks = s5.toks + 1 := tk6
          have z3 : k ≤ s3.toks := hk3
          show tk < s6.toks
          rw [z6, z5]
          exact Nat.lt_succ_of_lt (Nat.lt_succ_of_lt (Nat.lt_of_lt_of_le hlt z3))
        refine app_repl hNw hNe hNl vw ve vl vr dw cw de ce dl cl dr nb I6 hm hr hk t6 hσe (SqL.of hsq.2) hσl hσw hp hb hb1 hb2 (by rw [ha.len]; exact hlen) ?_ hst hbase hline hbasew hlinew hsw
        exact sv.nx _ hz E _ _ (env3.write hiw' hσw (ha.app (DnA.one rfl)))
      · exact he.elim
    · exact he.elim
  | _ => exact (show False from hd).elim
end DL

set_option Elab.async false
set_option linter.all false
/-! searches level by level: the least of the shortest rows -/
namespace BF
def lx : List Nat → List Nat → Prop
  | a :: x, b :: y => a < b ∨ (a = b ∧ lx x y)
  | _, _ => False
theorem lx_trans : ∀ {x y z : List Nat}, lx x y → lx y z → lx x z
  | [], _, _, h, _ => h.elim
  | _ :: _, [], _, h, _ => h.elim
  | _ :: _, _ :: _, [], _, h => h.elim
  | a :: x, b :: y, c :: z, h1, h2 => by
    rcases h1 with h1 | ⟨e1, h1⟩
    · rcases h2 with h2 | ⟨e2, h2⟩
      · exact .inl (by omega)
      · exact .inl (by omega)
    · rcases h2 with h2 | ⟨e2, h2⟩
      · exact .inl (by omega)
      · exact .inr ⟨by omega, lx_trans h1 h2⟩
theorem lx_irrefl : ∀ {x : List Nat}, ¬ lx x x
  | [], h => h
  | a :: x, h => by
    rcases h with h | ⟨_, h⟩
    · omega
    · exact lx_irrefl h
theorem lx_app : ∀ {x y : List Nat} (u v : List Nat), lx x y → lx (x ++ u) (y ++ v)
  | [], _, _, _, h => h.elim
  | _ :: _, [], _, _, h => h.elim
  | a :: x, b :: y, u, v, h => by
    rcases h with h | ⟨e, h⟩
    · exact .inl h
    · exact .inr ⟨e, lx_app u v h⟩
theorem lx_pre : ∀ (x : List Nat) {u v : List Nat}, lx u v → lx (x ++ u) (x ++ v)
  | [], _, _, h => h
  | a :: x, _, _, h => .inr ⟨rfl, lx_pre x h⟩
theorem lx_last {x : List Nat} {a b : Nat} (h : a < b) : lx (x ++ [a]) (x ++ [b]) := lx_pre x (.inl h)
def le (x y : List Nat) : Prop := x = y ∨ lx x y
theorem le_trans {x y z : List Nat} (h1 : le x y) (h2 : le y z) : le x z := by
  rcases h1 with rfl | h1
  · exact h2
  · rcases h2 with rfl | h2
    · exact .inr h1
    · exact .inr (lx_trans h1 h2)
theorem le_app {x y : List Nat} {a : Nat} (h : le x y) : le (x ++ [a]) (y ++ [a]) := by
  rcases h with rfl | h
  · exact .inl rfl
  · exact .inr (lx_app _ _ h)
variable {σ : Type} [DecidableEq σ]
def run (step : σ → Nat → Option σ) : σ → List Nat → Option σ
  | s, [] => some s
  | s, a :: w => (step s a).bind fun y => run step y w
omit [DecidableEq σ] in
theorem run_app (step : σ → Nat → Option σ) : ∀ (u v : List Nat) (s : σ), run step s (u ++ v) = (run step s u).bind fun y => run step y v
  | [], v, s => rfl
  | a :: u, v, s => by
    rw [List.cons_append, run, run]
    cases step s a with
    | none => rfl
    | some y => exact run_app step u v y
omit [DecidableEq σ] in
theorem run_snoc (step : σ → Nat → Option σ) (w : List Nat) (a : Nat) (s : σ) : run step s (w ++ [a]) = (run step s w).bind fun y => step y a := by
  rw [run_app]
  congr 1
  funext y
  rw [run]
  cases step y a with
  | none => rfl
  | some z => rfl
abbrev Ent (σ : Type) := List Nat × σ
def cand1 (step : σ → Nat → Option σ) (k : Nat) (e : Ent σ) : List (Ent σ) := (List.range k).filterMap fun a => (step e.2 a).map fun y => (e.1 ++ [a], y)
def cands (step : σ → Nat → Option σ) (k : Nat) (rows : List (Ent σ)) : List (Ent σ) := rows.flatMap (cand1 step k)
/-- those that are new, one behind the other -/
def ded : List σ → List (Ent σ) → List σ × List (Ent σ)
  | kn, [] => (kn, [])
  | kn, e :: c => if e.2 ∈ kn then ded kn c else ((ded (kn ++ [e.2]) c).1, e :: (ded (kn ++ [e.2]) c).2)
theorem ded_known : ∀ (c : List (Ent σ)) (kn : List σ), (ded kn c).1 = kn ++ (ded kn c).2.map (·.2)
  | [], kn => by simp [ded]
  | e :: c, kn => by
    rw [ded]
    split
    · exact ded_known c kn
    · rw [ded_known c (kn ++ [e.2])]; simp
theorem ded_sub : ∀ (c : List (Ent σ)) (kn : List σ), (ded kn c).2.Sublist c
  | [], kn => by simp [ded]
  | e :: c, kn => by
    rw [ded]
    split
    · exact (ded_sub c kn).cons _
    · exact (ded_sub c _).cons₂ _
theorem ded_nodup : ∀ (c : List (Ent σ)) (kn : List σ), kn.Nodup → (ded kn c).1.Nodup
  | [], kn, h => by simpa [ded] using h
  | e :: c, kn, h => by
    rw [ded]
    split
    · exact ded_nodup c kn h
    · rename_i hn
      refine ded_nodup c _ ?_
      rw [List.nodup_append]
      exact ⟨h, by simp, fun a ha b hb q => by rw [List.mem_singleton.mp hb] at q; exact hn (q ▸ ha)⟩
theorem ded_least : ∀ (c : List (Ent σ)) (kn : List σ), (c.map (·.1)).Pairwise lx → ∀ e ∈ c, e.2 ∈ kn ∨ ∃ e' ∈ (ded kn c).2, e'.2 = e.2 ∧ le e'.1 e.1
  | [], kn, _, e, he => by cases he
  | x :: c, kn, hp, e, he => by
    rw [List.map_cons, List.pairwise_cons] at hp
    rw [ded]
    rcases List.mem_cons.mp he with rfl | he
    · split
      · rename_i h; exact .inl h
      · exact .inr ⟨e, List.mem_cons_self .., rfl, .inl rfl⟩
    · split
      · exact ded_least c kn hp.2 e he
      · rcases ded_least c (kn ++ [x.2]) hp.2 e he with h | ⟨e', h1, h2, h3⟩
        · rcases List.mem_append.mp h with h | h
          · exact .inl h
          · exact .inr ⟨x, List.mem_cons_self .., (List.mem_singleton.mp h).symm, .inr (hp.1 e.1 (List.mem_map.mpr ⟨e, he, rfl⟩))⟩
        · exact .inr ⟨e', List.mem_cons_of_mem _ h1, h2, h3⟩
theorem cand1_mem {step : σ → Nat → Option σ} {k : Nat} {e f : Ent σ} : f ∈ cand1 step k e ↔ ∃ a, a < k ∧ ∃ y, step e.2 a = some y ∧ f = (e.1 ++ [a], y) := by
  unfold cand1
  rw [List.mem_filterMap]
  constructor
  · rintro ⟨a, ha, h⟩
    cases q : step e.2 a with
    | none => rw [q] at h; cases h
    | some y => rw [q] at h; cases h; exact ⟨a, List.mem_range.mp ha, y, q, rfl⟩
  · rintro ⟨a, ha, y, h, rfl⟩
    exact ⟨a, List.mem_range.mpr ha, by rw [h]; rfl⟩
theorem cand1_asc (step : σ → Nat → Option σ) (k : Nat) (e : Ent σ) : ((cand1 step k e).map (·.1)).Pairwise lx := by
  unfold cand1
  rw [List.pairwise_map]
  refine List.Pairwise.filterMap (R := (· < ·)) _ (fun a b hab f hf g hg => ?_) List.pairwise_lt_range
  cases q : step e.2 a with
  | none => rw [q] at hf; cases hf
  | some y =>
    rw [q] at hf
    cases hf
    cases q2 : step e.2 b with
    | none => rw [q2] at hg; cases hg
    | some z => rw [q2] at hg; cases hg; exact lx_last hab
theorem cands_asc (step : σ → Nat → Option σ) (k : Nat) : ∀ rows : List (Ent σ), (rows.map (·.1)).Pairwise lx → ((cands step k rows).map (·.1)).Pairwise lx
  | [], _ => List.Pairwise.nil
  | e :: rows, h => by
    rw [List.map_cons, List.pairwise_cons] at h
    show ((cand1 step k e ++ cands step k rows).map (·.1)).Pairwise lx
    rw [List.map_append, List.pairwise_append]
    refine ⟨cand1_asc step k e, cands_asc step k rows h.2, fun x hx y hy => ?_⟩
    obtain ⟨f, hf, rfl⟩ := List.mem_map.mp hx
    obtain ⟨g, hg, rfl⟩ := List.mem_map.mp hy
    obtain ⟨a, _, _, _, rfl⟩ := cand1_mem.mp hf
    unfold cands at hg
    obtain ⟨e', he', hg⟩ := List.mem_flatMap.mp hg
    obtain ⟨b, _, _, _, rfl⟩ := cand1_mem.mp hg
    exact lx_app _ _ (h.1 e'.1 (List.mem_map.mpr ⟨e', he', rfl⟩))
/-- the levels -/
def lev (step : σ → Nat → Option σ) (k : Nat) (s0 : σ) : Nat → List σ × List (Ent σ)
  | 0 => ([s0], [([], s0)])
  | n + 1 => ded (lev step k s0 n).1 (cands step k (lev step k s0 n).2)
section
variable (step : σ → Nat → Option σ) (k : Nat) (s0 : σ)
structure LInv (n : Nat) : Prop where
  rows : ∀ e ∈ (lev step k s0 n).2, e.1.length = n ∧ (∀ a ∈ e.1, a < k) ∧ run step s0 e.1 = some e.2
  asc : ((lev step k s0 n).2.map (·.1)).Pairwise lx
  known : ∀ x, x ∈ (lev step k s0 n).1 ↔ ∃ m, m ≤ n ∧ ∃ e ∈ (lev step k s0 m).2, e.2 = x
  nodup : (lev step k s0 n).1.Nodup
  least : ∀ w x, w.length = n → (∀ a ∈ w, a < k) → run step s0 w = some x → (∃ m, m < n ∧ ∃ e ∈ (lev step k s0 m).2, e.2 = x) ∨ ∃ e ∈ (lev step k s0 n).2, e.2 = x ∧ le e.1 w
theorem linv : ∀ n, LInv step k s0 n
  | 0 => by
    refine ⟨fun e he => ?_, by simp [lev], fun x => ?_, by simp [lev], fun w x hl _ hr => .inr ?_⟩
    · have : e = ([], s0) := List.mem_singleton.mp he
      subst this
      exact ⟨rfl, by simp, rfl⟩
    · constructor
      · intro hx
        have : x = s0 := List.mem_singleton.mp hx
        subst this
        exact ⟨0, Nat.le_refl _, ([], x), List.mem_singleton.mpr rfl, rfl⟩
      · rintro ⟨m, hm, e, he, rfl⟩
        have : m = 0 := by omega
        subst this
        have : e = ([], s0) := List.mem_singleton.mp he
        rw [this]
        exact List.mem_singleton.mpr rfl
    · have : w = [] := List.eq_nil_of_length_eq_zero hl
      subst this
      have e : s0 = x := Option.some.inj hr
      subst e
      exact ⟨([], s0), List.mem_singleton.mpr rfl, rfl, .inl rfl⟩
  | n + 1 => by
    have I := linv n
    have ca := cands_asc step k _ I.asc
    have sub := ded_sub (cands step k (lev step k s0 n).2) (lev step k s0 n).1
    have kn : ∀ x, x ∈ (lev step k s0 (n + 1)).1 ↔ x ∈ (lev step k s0 n).1 ∨ ∃ e ∈ (lev step k s0 (n + 1)).2, e.2 = x := fun x => by
      show x ∈ (ded _ _).1 ↔ _
      rw [ded_known, List.mem_append, List.mem_map]
      exact Iff.rfl
    have cov : ∀ m, m ≤ n → ∀ e ∈ (lev step k s0 m).2, ∀ a, a < k → ∀ y, step e.2 a = some y → ((lev step k s0 m).2.map (·.1)).Pairwise lx → y ∈ (lev step k s0 m).1 ∨ ∃ e' ∈ (lev step k s0 (m + 1)).2, e'.2 = y ∧ le e'.1 (e.1 ++ [a]) := fun m _ e he a ha y hy hasc => by
      have hm : (e.1 ++ [a], y) ∈ cands step k (lev step k s0 m).2 := List.mem_flatMap.mpr ⟨e, he, cand1_mem.mpr ⟨a, ha, y, hy, rfl⟩⟩
      exact ded_least _ (lev step k s0 m).1 (cands_asc step k _ hasc) _ hm
    refine ⟨fun e he => ?_, ?_, fun x => ?_, ded_nodup _ _ I.nodup, fun w x hl hk hr => ?_⟩
    · have hm := sub.subset he
      obtain ⟨e0, he0, hm⟩ := List.mem_flatMap.mp hm
      obtain ⟨a, ha, y, hy, rfl⟩ := cand1_mem.mp hm
      obtain ⟨h1, h2, h3⟩ := I.rows e0 he0
      refine ⟨by rw [List.length_append, h1]; rfl, fun b hb => ?_, ?_⟩
      · rcases List.mem_append.mp hb with hb | hb
        · exact h2 b hb
        · rw [List.mem_singleton.mp hb]; exact ha
      · rw [run_snoc, h3]; exact hy
    · exact ca.sublist (sub.map _)
    · rw [kn, I.known]
      constructor
      · rintro (⟨m, hm, h⟩ | h)
        · exact ⟨m, by omega, h⟩
        · exact ⟨n + 1, Nat.le_refl _, h⟩
      · rintro ⟨m, hm, h⟩
        by_cases e : m = n + 1
        · subst e; exact .inr h
        · exact .inl ⟨m, by omega, h⟩
    · obtain ⟨w', a, rfl⟩ : ∃ w' a, w = w' ++ [a] := by
        rcases List.eq_nil_or_concat w with h | ⟨w', a, h⟩
        · subst h; cases hl
        · exact ⟨w', a, by rw [h, List.concat_eq_append]⟩
      rw [List.length_append] at hl
      have hl' : w'.length = n := by simpa using hl
      have ha := hk a (by simp)
      rw [run_snoc] at hr
      cases q : run step s0 w' with
      | none => rw [q] at hr; cases hr
      | some y =>
        rw [q] at hr
        have hr' : step y a = some x := hr
        rcases I.least w' y hl' (fun b hb => hk b (List.mem_append_left _ hb)) q with ⟨m, hm, e, he, rfl⟩ | ⟨e, he, rfl, hle⟩
        · left
          rcases cov m (by omega) e he a ha x hr' (linv m).asc with h | ⟨e', h1, h2, _⟩
          · obtain ⟨m', hm', h⟩ := ((linv m).known x).mp h
            exact ⟨m', by omega, h⟩
          · exact ⟨m + 1, by omega, e', h1, h2⟩
        · rcases cov n (Nat.le_refl _) e he a ha x hr' I.asc with h | ⟨e', h1, h2, h3⟩
          · left
            obtain ⟨m', hm', h⟩ := (I.known x).mp h
            exact ⟨m', by omega, h⟩
          · exact .inr ⟨e', h1, h2, le_trans h3 (le_app hle)⟩
termination_by n => n
theorem lev_nil {n : Nat} (h : (lev step k s0 n).2 = []) : ∀ m, n ≤ m → (lev step k s0 m).2 = [] := by
  intro m hm
  induction m with
  | zero => have : n = 0 := by omega
            subst this; exact h
  | succ m ih =>
    by_cases e : n = m + 1
    · subst e; exact h
    · have := ih (by omega)
      show (ded _ (cands step k (lev step k s0 m).2)).2 = []
      rw [this]; rfl
theorem lev_len : ∀ n, (lev step k s0 n).2 ≠ [] → n + 1 ≤ (lev step k s0 n).1.length
  | 0, _ => by simp [lev]
  | n + 1, h => by
    have hn : (lev step k s0 n).2 ≠ [] := fun z => h (lev_nil step k s0 z (n + 1) (by omega))
    have ih := lev_len n hn
    show n + 1 + 1 ≤ (ded _ _).1.length
    rw [ded_known, List.length_append, List.length_map]
    have : 0 < (lev step k s0 (n + 1)).2.length := List.length_pos_iff.mpr h
    have : (lev step k s0 (n + 1)).2.length = (ded (lev step k s0 n).1 (cands step k (lev step k s0 n).2)).2.length := rfl
    omega
/-- few states: the levels come to an end -/
theorem lev_end (f : σ → Nat) (N : Nat) (P : σ → Prop) (h0 : P s0) (hs : ∀ x a y, P x → a < k → step x a = some y → P y) (hf : ∀ x, P x → f x < N) (inj : ∀ x y, P x → P y → f x = f y → x = y) : (lev step k s0 N).2 = [] := by
  have all : ∀ n, ∀ e ∈ (lev step k s0 n).2, P e.2 := by
    intro n
    induction n with
    | zero => intro e he; have : e = ([], s0) := List.mem_singleton.mp he; rw [this]; exact h0
    | succ n ih =>
      intro e he
      have hm := (ded_sub (cands step k (lev step k s0 n).2) (lev step k s0 n).1).subset he
      obtain ⟨e0, he0, hm⟩ := List.mem_flatMap.mp hm
      obtain ⟨a, ha, y, hy, rfl⟩ := cand1_mem.mp hm
      exact hs _ a y (ih e0 he0) ha hy
  apply Classical.byContradiction
  intro h
  have h1 := lev_len step k s0 N h
  have I := linv step k s0 N
  have hP : ∀ x ∈ (lev step k s0 N).1, P x := fun x hx => by
    obtain ⟨m, _, e, he, rfl⟩ := (I.known x).mp hx
    exact all m e he
  have nd : ((lev step k s0 N).1.map f).Nodup := by
    have : ∀ l : List σ, l.Nodup → (∀ x ∈ l, P x) → (l.map f).Nodup := by
      intro l
      induction l with
      | nil => intro _ _; simp
      | cons x l ih =>
        intro hn hp
        rw [List.nodup_cons] at hn
        rw [List.map_cons, List.nodup_cons]
        refine ⟨fun z => ?_, ih hn.2 fun y hy => hp y (List.mem_cons_of_mem _ hy)⟩
        obtain ⟨y, hy, e⟩ := List.mem_map.mp z
        have := inj y x (hp y (List.mem_cons_of_mem _ hy)) (hp x (List.mem_cons_self ..)) e
        exact hn.1 (this ▸ hy)
    exact this _ I.nodup hP
  have len : ∀ (l : List Nat) (m : List Nat), l.Nodup → (∀ x ∈ l, x ∈ m) → l.length ≤ m.length := by
    intro l
    induction l with
    | nil => intro m _ _; exact Nat.zero_le _
    | cons x l ih =>
      intro m hn hsub
      rw [List.nodup_cons] at hn
      have hx := hsub x (List.mem_cons_self ..)
      have := ih (m.erase x) hn.2 fun y hy => (List.mem_erase_of_ne (fun e : y = x => hn.1 (e ▸ hy))).mpr (hsub y (List.mem_cons_of_mem _ hy))
      rw [List.length_erase_of_mem hx] at this
      have : 0 < m.length := List.length_pos_of_mem hx
      rw [List.length_cons]
      omega
  have := len _ (List.range N) nd fun z hz => by
    obtain ⟨x, hx, rfl⟩ := List.mem_map.mp hz
    exact List.mem_range.mpr (hf x (hP x hx))
  rw [List.length_map, List.length_range] at this
  omega
/-! ### hits on the way: the first letter that hits, level by level -/
variable (hit : σ → Nat → Bool)
def hit1 (e : Ent σ) : Option (List Nat) := ((List.range k).find? fun a => hit e.2 a).map fun a => e.1 ++ [a]
def firstHit (rows : List (Ent σ)) : Option (List Nat) := rows.findSome? (hit1 k hit)
def Hits (w : List Nat) : Prop := ∃ w' a y, w = w' ++ [a] ∧ run step s0 w' = some y ∧ hit y a = true ∧ ∀ b ∈ w, b < k
omit [DecidableEq σ] in
theorem hit1_some {e : Ent σ} {w : List Nat} (h : hit1 k hit e = some w) : ∃ a, a < k ∧ hit e.2 a = true ∧ w = e.1 ++ [a] ∧ ∀ b, b < a → hit e.2 b = false := by
  unfold hit1 at h
  cases q : (List.range k).find? fun a => hit e.2 a with
  | none => rw [q] at h; cases h
  | some a =>
    rw [q] at h
    cases h
    have h1 := List.find?_some q
    have h2 := List.mem_range.mp (List.mem_of_find?_eq_some q)
    refine ⟨a, h2, h1, rfl, fun b hb => ?_⟩
    rw [List.find?_range_eq_some] at q
    have := q.2.2 b hb
    simpa using this
omit [DecidableEq σ] in
theorem hit1_none {e : Ent σ} (h : hit1 k hit e = none) : ∀ a, a < k → hit e.2 a = false := by
  unfold hit1 at h
  rw [Option.map_eq_none_iff, List.find?_eq_none] at h
  intro a ha
  have := h a (List.mem_range.mpr ha)
  simpa using this
omit [DecidableEq σ] in
theorem first_some : ∀ {rows : List (Ent σ)} {w : List Nat}, (rows.map (·.1)).Pairwise lx → firstHit k hit rows = some w → ∃ e ∈ rows, hit1 k hit e = some w ∧ ∀ e' ∈ rows, ∀ a, a < k → hit e'.2 a = true → le w (e'.1 ++ [a])
  | [], _, _, h => by cases h
  | e :: rows, w, hp, h => by
    rw [List.map_cons, List.pairwise_cons] at hp
    unfold firstHit at h
    rw [List.findSome?_cons] at h
    cases q : hit1 k hit e with
    | some w' =>
      rw [q] at h
      cases h
      obtain ⟨a, ha, h1, rfl, h2⟩ := hit1_some k hit q
      refine ⟨e, List.mem_cons_self .., q, fun e' he' b hb hh => ?_⟩
      rcases List.mem_cons.mp he' with rfl | he'
      · rcases Nat.lt_trichotomy a b with z | z | z
        · exact .inr (lx_last z)
        · exact .inl (by rw [z])
        · rw [h2 b z] at hh; cases hh
      · exact .inr (lx_app _ _ (hp.1 e'.1 (List.mem_map.mpr ⟨e', he', rfl⟩)))
    | none =>
      rw [q] at h
      obtain ⟨e0, h1, h2, h3⟩ := first_some hp.2 (show firstHit k hit rows = some w from h)
      refine ⟨e0, List.mem_cons_of_mem _ h1, h2, fun e' he' b hb hh => ?_⟩
      rcases List.mem_cons.mp he' with rfl | he'
      · rw [hit1_none k hit q b hb] at hh; cases hh
      · exact h3 e' he' b hb hh
omit [DecidableEq σ] in
theorem first_none : ∀ {rows : List (Ent σ)}, firstHit k hit rows = none → ∀ e ∈ rows, ∀ a, a < k → hit e.2 a = false := fun {rows} h e he => hit1_none k hit (List.findSome?_eq_none_iff.mp h e he)
theorem no_hit_short {n : Nat} (h : ∀ m, m < n → firstHit k hit (lev step k s0 m).2 = none) {w : List Nat} (hw : Hits step k s0 hit w) : n < w.length := by
  apply Classical.byContradiction
  intro hlt
  obtain ⟨w', a, y, rfl, hr, hh, hk⟩ := hw
  rw [List.length_append] at hlt
  have hl : w'.length < n := by simp at hlt; omega
  have ha := hk a (by simp)
  have key : ∃ m, m < n ∧ ∃ e ∈ (lev step k s0 m).2, e.2 = y := by
    rcases (linv step k s0 w'.length).least w' y rfl (fun b hb => hk b (List.mem_append_left _ hb)) hr with ⟨m, hm, h⟩ | ⟨e, he, h, _⟩
    · exact ⟨m, by omega, h⟩
    · exact ⟨w'.length, hl, e, he, h⟩
  obtain ⟨m, hm, e, he, rfl⟩ := key
  rw [first_none k hit (h m hm) e he a ha] at hh
  cases hh
theorem hit_least {n : Nat} (h : ∀ m, m < n → firstHit k hit (lev step k s0 m).2 = none) {w : List Nat} (hw : firstHit k hit (lev step k s0 n).2 = some w) :
    Hits step k s0 hit w ∧ w.length = n + 1 ∧ ∀ v, Hits step k s0 hit v → w.length ≤ v.length ∧ (w.length = v.length → le w v) := by
  have I := linv step k s0 n
  obtain ⟨e, he, h1, h2⟩ := first_some k hit I.asc hw
  obtain ⟨a, ha, h3, rfl, h4⟩ := hit1_some k hit h1
  obtain ⟨h5, h6, h7⟩ := I.rows e he
  refine ⟨⟨e.1, a, e.2, rfl, h7, h3, fun b hb => ?_⟩, by rw [List.length_append, h5]; rfl, fun v hv => ?_⟩
  · rcases List.mem_append.mp hb with hb | hb
    · exact h6 b hb
    · rw [List.mem_singleton.mp hb]; exact ha
  · have h8 := no_hit_short step k s0 hit h hv
    refine ⟨by rw [List.length_append, h5]; simp; omega, fun hl => ?_⟩
    obtain ⟨v', b, y, rfl, hr, hh, hk⟩ := hv
    rw [List.length_append, List.length_append, h5] at hl
    have hl' : v'.length = n := by simp at hl; omega
    have hb := hk b (by simp)
    rcases I.least v' y hl' (fun c hc => hk c (List.mem_append_left _ hc)) hr with ⟨m, hm, e', he', rfl⟩ | ⟨e', he', rfl, hle⟩
    · rw [first_none k hit (h m hm) e' he' b hb] at hh; cases hh
    · exact le_trans (h2 e' he' b hb hh) (le_app hle)
theorem no_hit {n : Nat} (h : ∀ m, m < n → firstHit k hit (lev step k s0 m).2 = none) (hn : (lev step k s0 n).2 = []) (w : List Nat) : ¬ Hits step k s0 hit w := fun hw => by
  have hall : ∀ m, firstHit k hit (lev step k s0 m).2 = none := fun m => by
    by_cases hm : m < n
    · exact h m hm
    · rw [lev_nil step k s0 hn m (by omega)]; rfl
  have := no_hit_short step k s0 hit (n := w.length) (fun m _ => hall m) hw
  omega
end
end BF

set_option Elab.async false
set_option linter.all false
set_option maxRecDepth 100000
set_option maxHeartbeats 4000000
namespace G
open PySem L2 DL
def top (i : Nat) : Stmt := PySem.Challenge.pw_whichstand_k12_whole_texts.main.body.getD i (.Pass ⟨0, 0, 0, 0⟩)

/-! ### the property table -/
abbrev st_p_table : Stmt := inClass (top 11) 1
abbrev N_p_table : List Str := ["self"]
theorem sc_p_table : FnScope N_p_table ["self"] (defScope st_p_table) := ⟨rfl, rfl, rfl, by decide +kernel, rfl, by decide +kernel, by decide +kernel⟩
def r_p_table (C : Addr) : RS :=
  (sret (dfld C "rows" (dvar 0)))
@[irreducible] def m_p_table (C : Addr) : RF := fnR 1 0 (r_p_table C)
theorem e_p_table (C : Addr) : m_p_table C = fnR 1 0 (r_p_table C) := by unfold m_p_table; rfl
theorem ok_p_table {P : Program} {w : World} {K : PySem.W.Frag} {mg : Str → Option Value} {base : Heap} {C p g : Addr} {fd : FuncData} (B : Blt mg) (M : Mach K mg C) (PO : PropOf K C "table" p g) (Fn : Fun K "table" "Machine.table" st_p_table g fd) (b : Binds K fd ["self"] []) : PrOk P w K mg base C "table" 1 (m_p_table C) := by
  rw [e_p_table]
  exact ⟨p, g, fd, PO, fn_ok (k := 0) Fn sc_p_table fun cdv A outer s H E hr =>
  (s_one (s_ret (e_fld M.cl M.nR (e_var (pv 0))))), b⟩
/-! ### __eq__ -/
abbrev st_q_eq : Stmt := inClass (top 11) 4
abbrev N_q_eq : List Str := ["self", "other"]
theorem sc_q_eq : FnScope N_q_eq ["self", "other"] (defScope st_q_eq) := ⟨rfl, rfl, rfl, by decide +kernel, rfl, by decide +kernel, by decide +kernel⟩
def r_q_eq (C : Addr) : RS :=
  (sret (dandv (disM C (dvar 1)) (dop rEq (dfld C "rows" (dvar 0)) (dfld C "rows" (dvar 1)))))
@[irreducible] def m_q_eq (C : Addr) : RF := fnR 2 0 (r_q_eq C)
theorem e_q_eq (C : Addr) : m_q_eq C = fnR 2 0 (r_q_eq C) := by unfold m_q_eq; rfl
theorem ok_q_eq {P : Program} {w : World} {K : PySem.W.Frag} {mg : Str → Option Value} {base : Heap} {C f : Addr} {fd : FuncData} (B : Blt mg) (M : Mach K mg C) (IM : IsM K C) (Fn : Fun K "__eq__" "Machine.__eq__" st_q_eq f fd) : FnOk P w K mg base CX0 1 f fd ["self", "other"] (spD K 2 (m_q_eq C)) := by
  rw [e_q_eq]
  exact fn_ok (k := 0) Fn sc_q_eq fun cdv A outer s H E hr =>
  (s_one (s_ret (e_and (e_isM IM (by rfl) B.isi (by rfl) M.mgC (e_b (e_var (pv 1)))) (e_one (e_cmp (o_eq hr) (e_b (e_fld M.cl M.nR (e_var (pv 0)))) (e_b (e_fld M.cl M.nR (e_var (pv 1)))) (nomark _))))))
/-! ### _law_mix -/
abbrev st__law_mix : Stmt := top 21
/-! ### step_text -/
abbrev st_step_text : Stmt := top 15
abbrev N_step_text : List Str := ["step"]
theorem sc_step_text : FnScope N_step_text ["step"] (defScope st_step_text) := ⟨rfl, rfl, rfl, by decide +kernel, rfl, by decide +kernel, by decide +kernel⟩
def r_step_text : RS :=
  (sret (dif (dtest (dop rIs (dvar 0) (dcon .non))) (dcon (.str "-")) (dfs2 ":" (dop rIx (dvar 0) (dcon (.int 0))) (dop rIx (dvar 0) (dcon (.int 1))))))
@[irreducible] def m_step_text : RF := fnR 1 0 (r_step_text)
theorem e_step_text : m_step_text = fnR 1 0 (r_step_text) := by unfold m_step_text; rfl
theorem len_step_text : ∀ ss q, m_step_text ss q → ss.length = 1 := by rw [e_step_text]; exact fnR_len
theorem ok_step_text {P : Program} {w : World} {K : PySem.W.Frag} {mg : Str → Option Value} {base : Heap} {C : Addr} (B : Blt mg) (M : Mach K mg C) (c_LACKS : Con1 K mg "LACKS" (.str "-")) (d : Def1 K mg "step_text" st_step_text ["step"]) : Cal P w K mg base "step_text" 1 1 (m_step_text) := by
  rw [e_step_text]
  exact cal_of (k := 0) d sc_step_text fun f cdv A outer s H E hr =>
  (s_one (s_ret (e_if (t_cmp o_is (e_b (e_var (pv 0))) (e_b e_non) (nomark _)) (e_glob c_LACKS (by rfl)) (e_fs2 (e_ix (e_b (e_var (pv 0))) (e_b e_int) (fun _ _ => rfl)) (e_ix (e_b (e_var (pv 0))) (e_b e_int) (fun _ _ => rfl))))))
/-! ### write -/
abbrev st_write : Stmt := top 16
abbrev N_write : List Str := ["machine", "row", "step"]
theorem sc_write : FnScope N_write ["machine"] (defScope st_write) := ⟨rfl, rfl, rfl, by decide +kernel, rfl, by decide +kernel, by decide +kernel⟩
def r_write (C : Addr) : RS :=
  (sret (djoin (dcon (.str "\n")) (flst_ (flc (itup (dfld C "rows" (dvar 0))) [1] (.one 1) dyes (djoin (dcon (.str " ")) (dop rAdd (dlst (lcons (dcon (.str "stand")) lnil)) (flst_ (flc (itup (dvar 1)) [2] (.one 2) dyes (dcallf m_step_text (acons (dvar 2) anil))))))))))
@[irreducible] def m_write (C : Addr) : RF := fnR 1 2 (r_write C)
theorem e_write (C : Addr) : m_write C = fnR 1 2 (r_write C) := by unfold m_write; rfl
theorem len_write {C : Addr} : ∀ ss q, m_write C ss q → ss.length = 1 := by rw [e_write]; exact fnR_len
theorem ok_write {P : Program} {w : World} {K : PySem.W.Frag} {mg : Str → Option Value} {base : Heap} {C : Addr} (B : Blt mg) (M : Mach K mg C) (G_step_text : Cal P w K mg base "step_text" 1 1 m_step_text) (c_HEAD : Con1 K mg "HEAD" (.str "stand")) (d : Def1 K mg "write" st_write ["machine"]) : Cal P w K mg base "write" 2 1 (m_write C) := by
  rw [e_write]
  exact cal_of (k := 1) d sc_write fun f cdv A outer s H E hr =>
  (s_one (s_ret (e_join e_str (f_e (f_lc (own := [("row", 1)]) (T := (.one 1)) rfl sc_write.nd (i_tup (e_fld M.cl M.nR (e_var (pv 0)))) (blkOk_by (own := [("row", 1)]) (N := N_write) (sc := defScope st_write) (by decide +kernel)) (by decide) (fun _ _ _ _ _ => (g_one sc_write.nd rfl (Or.inl rfl))) (fun _ _ _ _ _ => ts_nil) (fun _ _ _ _ _ => (e_join e_str (e_op o_add (e_b (e_lst (l_cons (e_glob c_HEAD (by rfl)) l_nil))) (e_b (f_e (f_lc (own := [("step", 2)]) (T := (.one 2)) rfl sc_write.nd (i_tup (e_var (pv 1))) (blkOk_by (by rfl)) (by decide) (fun _ _ _ _ _ => (g_one sc_write.nd rfl (Or.inl rfl))) (fun _ _ _ _ _ => ts_nil) (fun _ _ _ _ _ => (e_cal G_step_text len_step_text (hr.mono (by decide)) (by rfl) (a_cons (e_var (pv 2)) a_nil))))))))))))))
/-! ### _law_next -/
abbrev st__law_next : Stmt := top 22
/-! ### by hand: the source of draws -/
abbrev N__law_next : List Str := ["_law_h", "_law_cap", "_law_cell"]
theorem sc__law_next : FnScope N__law_next ["_law_h", "_law_cap"] (defScope st__law_next) := ⟨rfl, rfl, rfl, by decide +kernel, rfl, by decide +kernel, by decide +kernel⟩
theorem ixN_nat {n j : Nat} (h : j < n) : ixN n (j : Int) = some j := by
  unfold ixN
  rw [if_pos (by omega), if_pos (by omega)]
  simp
theorem atI_mod {xs : List V} {i : Int} {n : Int} (hn : 0 < n) (hl : n ≤ xs.length) : ∃ v, atI xs (i % n) = some v ∧ v ∈ xs := by
  have h1 : 0 ≤ i % n := Int.emod_nonneg _ (by omega)
  have h2 : i % n < n := Int.emod_lt_of_pos _ hn
  have h3 : (i % n).toNat < xs.length := by omega
  refine ⟨xs[(i % n).toNat], ?_, List.getElem_mem h3⟩
  have : atI xs ((i % n).toNat : Int) = some xs[(i % n).toNat] := atI_nat (List.getElem?_eq_getElem h3)
  rwa [Int.toNat_of_nonneg h1] at this
theorem ixN_mod {m : Nat} {i : Int} (hn : 0 < (m : Int)) : ∃ j, ixN m (i % (m : Int)) = some j := by
  have h1 : 0 ≤ i % (m : Int) := Int.emod_nonneg _ (by omega)
  have h2 : i % (m : Int) < m := Int.emod_lt_of_pos _ hn
  have := ixN_nat (n := m) (j := (i % (m : Int)).toNat) (by omega)
  rw [Int.toNat_of_nonneg h1] at this
  exact ⟨_, this⟩
theorem set_ints (ns : List Int) (j : Nat) (x : Int) : (ns.map V.int).set j (.int x) = (ns.set j x).map V.int := by
  rw [List.map_set]
theorem ok_next {P : Program} {w : World} {K : PySem.W.Frag} {mg : Str → Option Value} {base : Heap} (B : Blt mg) (d : Def1 K mg "_law_next" st__law_next ["_law_h", "_law_cap"]) : Cal P w K mg base "_law_next" 1 2 m_next := by
  obtain ⟨f, fd, F, hm, b⟩ := d
  refine cal_next F hm b (F.ok sc__law_next (fun vs H Q E h => ?_) (fun cdv A outer s H vs Q E hr h => ?_))
  · obtain ⟨a, c, cap, rfl, _⟩ := h
    rfl
  · obtain ⟨a, c, cap, rfl, ⟨nac, z, kk, ns, ha, hc, hl⟩, h0, h1, k⟩ := h
    refine ⟨_, pss_cons (ps_set (i := 2) sc__law_next.nd rfl (Or.inl rfl) (pe_ix ix_list (pe_op op_cat (pe_ix ix_list (pv 0) pe_int (fun _ _ => rfl)) (pe_lst (pa_cons pe_int pa_nil)))
        (pe_op op_mod (pe_callTy call_int1 (by rfl) B.int PyProof.Rows.boot_int (pa_cons (pe_ix ix_list (pv 0) pe_int (fun _ _ => rfl)) pa_nil)) (pe_callB (call_max2 rfl) (by rfl) B.max PyProof.Rows.boot_max (pa_cons pe_int (pa_cons (pe_callB call_len_seq (by rfl) B.len PySem.boot_len (pa_cons (pe_ix ix_list (pv 0) pe_int (fun _ _ => rfl)) pa_nil)) pa_nil)))) (fun _ _ => rfl)))
      (pss_cons (ps_if (pt_cmpR op_ge (pv 2) (pe_op op_pow pe_int pe_int) (nomark _))
        (pss_cons (ps_asg (pe_op op_fdiv (pv 2) (pv 1)) (pg_sub (pe_ix ix_list (pv 0) pe_int (fun _ _ => rfl)) (pe_op op_mod (pe_callTy call_int1 (by rfl) B.int PyProof.Rows.boot_int (pa_cons (pe_ix ix_list (pv 0) pe_int (fun _ _ => rfl)) pa_nil)) (pe_callB call_len_seq (by rfl) B.len PySem.boot_len (pa_cons (pe_ix ix_list (pv 0) pe_int (fun _ _ => rfl)) pa_nil))) set_list))
          (pss_one (ps_ret (pe_op op_mod (pe_callTy call_int1 (by rfl) B.int PyProof.Rows.boot_int (pa_cons (pv 2) pa_nil)) (pv 1)))))
        pss_nil)
      (pss_cons (ps_asg (pe_op op_mod (pe_callTy call_int1 (by rfl) B.int PyProof.Rows.boot_int (pa_cons (pe_op op_add (pe_op op_add (pe_op op_mul (pe_ix ix_list (pv 0) pe_int (fun _ _ => rfl)) pe_int) (pe_op op_mul (pv 2) pe_int)) pe_int) pa_nil)) pe_int) (pg_sub (pv 0) pe_int set_list))
      (pss_cons (ps_asg (pe_op op_add (pe_ix ix_list (pv 0) pe_int (fun _ _ => rfl)) pe_int) (pg_sub (pv 0) pe_int set_list))
      (pss_one (ps_ret (pe_op op_mod (pe_callTy call_int1 (by rfl) B.int PyProof.Rows.boot_int (pa_cons (pe_op op_fdiv (pe_ix ix_list (pv 0) pe_int (fun _ _ => rfl)) pe_int) pa_nil)) (pv 1))))))), ?_⟩
    -- _law_cell
    refine ⟨_, rfl, a, _, _, _, rfl, rfl, SqL.of ha, rfl, (by show 1 ≤ sizeLine; decide), fun t ht => ?_⟩
    have hat : upd H t (.lst [.int 0]) a = some (.lst [.int z, .ref c, .int kk]) := by rw [upd_ne (ne_of_none ha ht)]; exact ha
    have hct : upd H t (.lst [.int 0]) c = some (.lst (ns.map V.int)) := by rw [upd_ne (ne_of_none hc ht)]; exact hc
    refine ⟨c, t, ns.map V.int, [.int 0], rfl, rfl, hct, upd_same, ?_, fun u hu => ?_⟩
    · rw [List.length_map, sizeLine_eq]
      show ns.length + 1 ≤ 16777216
      omega
    have hau : upd (upd H t (.lst [.int 0])) u (.lst (ns.map V.int ++ [.int 0])) a = some (.lst [.int z, .ref c, .int kk]) := by rw [upd_ne (ne_of_none hat hu)]; exact hat
    have hcu : upd (upd H t (.lst [.int 0])) u (.lst (ns.map V.int ++ [.int 0])) c = some (.lst (ns.map V.int)) := by rw [upd_ne (ne_of_none hct hu)]; exact hct
    have keep : ∀ b o, H b = some o → upd (upd H t (.lst [.int 0])) u (.lst (ns.map V.int ++ [.int 0])) b = some o := fun b o q => by
      have q1 : upd H t (.lst [.int 0]) b = some o := by rw [upd_ne (ne_of_none q ht)]; exact q
      rw [upd_ne (ne_of_none q1 hu)]
      exact q1
    generalize hH2 : upd (upd H t (.lst [.int 0])) u (.lst (ns.map V.int ++ [.int 0])) = H2 at hau hcu keep ⊢
    have hu2 : H2 u = some (.lst (ns.map V.int ++ [.int 0])) := by rw [← hH2]; exact upd_same
    refine ⟨_, rfl, a, _, _, _, rfl, rfl, SqL.of hau, rfl, .inl ⟨_, rfl, ?_⟩⟩
    refine ⟨_, rfl, a, _, _, _, rfl, rfl, SqL.of hau, rfl, c, _, rfl, .inl (SqL.of hcu), _, _, rfl, ?_⟩
    have hpos : (0 : Int) < (if ((ns.map V.int).length : Int) > 1 then ((ns.map V.int).length : Int) else 1) := by split <;> omega
    refine ⟨_, _, rfl, rfl, hpos, ?_⟩
    obtain ⟨v, hv, hvm⟩ := atI_mod (xs := ns.map V.int ++ [V.int 0]) (i := kk) hpos (by rw [List.length_append]; simp only [List.length_singleton]; split <;> omega)
    obtain ⟨cell, rfl⟩ : ∃ n : Int, v = .int n := by
      rcases List.mem_append.mp hvm with m | m
      · obtain ⟨n, _, e⟩ := List.mem_map.mp m
        exact ⟨n, e.symm⟩
      · exact ⟨0, List.mem_singleton.mp m⟩
    refine ⟨u, _, _, _, rfl, rfl, SqL.of hu2, hv, ?_⟩
    -- if _law_cell >= 10 ** 18
    refine ⟨_, rfl, _, _, rfl, rfl, ⟨by decide, by decide, by decide⟩, _, _, rfl, rfl, _, rfl, ?_⟩
    have hnn : ∀ x : Int, 0 ≤ x % cap ∧ x % cap < cap := fun x => ⟨Int.emod_nonneg _ (by omega), Int.emod_lt_of_pos _ h0⟩
    by_cases hbig : ((10 : Int) ^ (18 : Int).toNat) ≤ cell
    · rw [decide_eq_true hbig]
      refine iteT ?_
      -- the cells are not none
      have hns : 0 < ns.length := by
        rcases Nat.eq_zero_or_pos ns.length with e | e
        · exfalso
          have e0 : ns = [] := List.eq_nil_of_length_eq_zero e
          subst e0
          have hv' : atI [V.int 0] (kk % 1) = some (V.int cell) := hv
          rw [Int.emod_one] at hv'
          have hv2 : some (V.int 0) = some (V.int cell) := hv'
          cases hv2
          exact absurd hbig (by decide)
        · exact e
      refine ⟨_, rfl, _, rfl, _, _, rfl, rfl, ⟨h0, h1⟩, ?_⟩
      refine ⟨_, rfl, a, _, _, _, rfl, rfl, SqL.of hau, rfl, ?_⟩
      refine ⟨_, rfl, a, _, _, _, rfl, rfl, SqL.of hau, rfl, .inl ⟨_, rfl, ?_⟩⟩
      refine ⟨_, rfl, a, _, _, _, rfl, rfl, SqL.of hau, rfl, c, _, rfl, .inl (SqL.of hcu), ?_⟩
      have hlp : (0 : Int) < ((ns.map V.int).length : Int) := by rw [List.length_map]; omega
      refine ⟨_, _, rfl, rfl, hlp, ?_⟩
      obtain ⟨j, hj⟩ := ixN_mod (m := (ns.map V.int).length) (i := kk) hlp
      refine ⟨c, _, _, j, rfl, rfl, hcu, hj, ?_⟩
      refine ⟨_, rfl, .inl ⟨_, rfl, ?_⟩⟩
      refine ⟨_, rfl, _, _, rfl, rfl, h0, ?_⟩
      refine k _ _ (hnn _).1 (hnn _).2 ⟨nac, z, kk, ns.set j (cell / cap), ?_, ?_, by rw [List.length_set]; exact hl⟩ fun b o q nb nc => ?_
      · rw [upd_ne nac]; exact hau
      · rw [set_ints]; exact upd_same
      · rw [upd_ne nc]; exact keep b o q
    · rw [decide_eq_false hbig]
      refine iteF ?_
      refine ⟨_, rfl, a, _, _, _, rfl, rfl, SqL.of hau, rfl, _, _, rfl, rfl, .inr (by constructor <;> decide), ?_⟩
      refine ⟨_, rfl, _, _, rfl, rfl, .inr (by constructor <;> decide), _, _, rfl, rfl, _, _, rfl, rfl, .inl ⟨_, rfl, ?_⟩⟩
      refine ⟨_, _, rfl, rfl, (by show (0 : Int) < 2147483647; decide), ?_⟩
      refine ⟨_, rfl, a, _, _, 0, rfl, rfl, hau, rfl, ?_⟩
      refine ⟨_, rfl, a, _, _, _, rfl, rfl, SqL.of upd_same, rfl, _, _, rfl, rfl, ?_⟩
      refine ⟨_, rfl, a, _, _, 2, rfl, rfl, upd_same, rfl, ?_⟩
      refine ⟨_, rfl, a, _, _, _, rfl, rfl, SqL.of upd_same, rfl, _, _, rfl, rfl, ⟨by decide, by decide⟩, .inl ⟨_, rfl, ?_⟩⟩
      refine ⟨_, rfl, _, _, rfl, rfl, h0, ?_⟩
      refine k _ _ (hnn _).1 (hnn _).2 ⟨nac, _, _, ns, upd_same, ?_, hl⟩ fun b o q nb nc => ?_
      · rw [upd_ne (Ne.symm nac), upd_ne (Ne.symm nac)]; exact hcu
      · rw [upd_ne nb, upd_ne nb]; exact keep b o q
abbrev N__law_mix : List Str := ["_law_script", "_law_seed", "_law_state", "_law_cell"]
theorem sc__law_mix : FnScope N__law_mix ["_law_script", "_law_seed"] (defScope st__law_mix) := ⟨rfl, rfl, rfl, by decide +kernel, rfl, by decide +kernel, by decide +kernel⟩
theorem ok_mix {P : Program} {w : World} {K : PySem.W.Frag} {mg : Str → Option Value} {base : Heap} (B : Blt mg) {f : Addr} {fd : FuncData} (F : Fun K "_law_mix" "_law_mix" st__law_mix f fd) : FnOk P w K mg base CX0 1 f fd ["_law_script", "_law_seed"] (spMix K) := by
  refine F.ok sc__law_mix (fun vs H Q E h => ?_) (fun cdv A outer s H vs Q E hr h => ?_)
  · obtain ⟨a, ns, seed, rfl, _⟩ := h
    rfl
  · obtain ⟨a, ns, seed, rfl, hs, hl, k⟩ := h
    refine ⟨_, pss_cons (ps_set (i := 2) sc__law_mix.nd rfl (Or.inl rfl) (pv 1))
      (pss_cons (ps_for PassesOwn.never rfl (pi_list (pv 0)) (pg_name (i := 3) sc__law_mix.nd rfl (Or.inl rfl))
        (pss_one (ps_set (i := 2) sc__law_mix.nd rfl (Or.inl rfl) (pe_op op_mod (pe_callTy call_int1 (by rfl) B.int PyProof.Rows.boot_int (pa_cons (pe_op op_add (pe_op op_add (pe_op op_mul (pv 2) pe_int) (pe_op op_mod (pe_callTy call_int1 (by rfl) B.int PyProof.Rows.boot_int (pa_cons (pv 3) pa_nil)) pe_int)) pe_int) pa_nil)) pe_int))))
      (pss_one (ps_ret (pe_lst (pa_cons (pv 2) (pa_cons (pe_callTy call_list_of (by rfl) B.list PyProof.Rows.boot_list (pa_cons (pv 0) pa_nil)) (pa_cons pe_int pa_nil))))))), ?_⟩
    refine ⟨_, rfl, _, rfl, a, rfl, ⟨_, hs⟩, for_list (K := K) (a := a) (xs := ns.map V.int) (fun i σ H' => H' = H ∧ ∃ (z : Int) (v : Option V), σ = [some (.ref a), some (.int seed), some (.int z), v]) ⟨rfl, seed, none, rfl⟩ (fun i σ H' _ ⟨e, _⟩ => by rw [e]; exact hs) ?_ ?_⟩
    · rintro i y σ H' hi ⟨rfl, z, v, rfl⟩
      obtain ⟨n, rfl⟩ : ∃ n, y = V.int n := by
        rw [List.getElem?_map] at hi
        cases e : ns[i]? with
        | none => rw [e] at hi; cases hi
        | some n => rw [e] at hi; exact ⟨n, (Option.some.inj hi).symm⟩
      refine ⟨_, rfl, _, _, rfl, rfl, .inr (by constructor <;> decide), ?_⟩
      refine ⟨_, rfl, .inl ⟨_, rfl, _, _, rfl, rfl, (by show (0 : Int) < 2147483629; decide), ?_⟩⟩
      refine ⟨_, _, rfl, rfl, _, _, rfl, rfl, .inl ⟨_, rfl, ?_⟩⟩
      refine ⟨_, _, rfl, rfl, (by show (0 : Int) < 2147483647; decide), rfl, _, _, rfl⟩
    · rintro σ H' ⟨rfl, z, v, rfl⟩
      refine ⟨_, rfl, _, rfl, a, _, rfl, .inl hs, fun c hc => ?_⟩
      refine ⟨(by show 3 ≤ sizeLine; decide), fun p hp => ?_⟩
      have ncp : c ≠ p := fun e => by rw [← e, upd_same] at hp; cases hp
      have hp0 : H' p = none := by rw [upd_ne (Ne.symm ncp)] at hp; exact hp
      refine k _ p c (fun b o q => ?_) hp0 hc ⟨Ne.symm ncp, z, 0, ns, upd_same, ?_, hl⟩
      · have q1 : upd H' c (.lst (ns.map V.int)) b = some o := by rw [upd_ne (ne_of_none q hc)]; exact q
        rw [upd_ne (ne_of_none q1 hp)]; exact q1
      · rw [upd_ne ncp]; exact upd_same

/-! ### _law_pick -/
abbrev st__law_pick : Stmt := top 24
abbrev N__law_pick : List Str := ["_law_h", "_law_things"]
theorem sc__law_pick : FnScope N__law_pick ["_law_h", "_law_things"] (defScope st__law_pick) := ⟨rfl, rfl, rfl, by decide +kernel, rfl, by decide +kernel, by decide +kernel⟩
def r__law_pick : RS :=
  (sret (dop rIx (dvar 1) (dcallf m_next (asrc 0 (acons (dcall rLen (lcons (dvar 1) lnil)) anil)))))
@[irreducible] def m__law_pick : RF := fnR 2 0 (r__law_pick)
theorem e__law_pick : m__law_pick = fnR 2 0 (r__law_pick) := by unfold m__law_pick; rfl
theorem len__law_pick : ∀ ss q, m__law_pick ss q → ss.length = 2 := by rw [e__law_pick]; exact fnR_len
theorem ok__law_pick {P : Program} {w : World} {K : PySem.W.Frag} {mg : Str → Option Value} {base : Heap} {C : Addr} (B : Blt mg) (M : Mach K mg C) (G__law_next : Cal P w K mg base "_law_next" 1 2 m_next) (d : Def1 K mg "_law_pick" st__law_pick ["_law_h", "_law_things"]) : Cal P w K mg base "_law_pick" 2 2 (m__law_pick) := by
  rw [e__law_pick]
  exact cal_of (k := 1) d sc__law_pick fun f cdv A outer s H E hr =>
  (s_one (s_ret (e_ix (e_b (e_var (pv 1))) (e_b (e_cal G__law_next len__law_next (hr.mono (by decide)) (by rfl) (a_src (pv 0) (a_cons (e_callB c_len (by rfl) B.len PySem.boot_len (lb_cons (e_b (e_var (pv 1))) lb_nil)) a_nil)))) (fun _ _ => rfl))))
/-! ### _law_table -/
abbrev st__law_table : Stmt := top 25
abbrev N__law_table : List Str := ["_law_h", "_law_many", "_law_letters", "_law_cap", "_law_lacks", "_law_near", "_law_rows", "_law_stand", "_law_row", "_law_letter", "_law_goal", "_law_sign"]
theorem sc__law_table : FnScope N__law_table ["_law_h"] (defScope st__law_table) := ⟨rfl, rfl, rfl, by decide +kernel, rfl, by decide +kernel, by decide +kernel⟩
def r__law_table : RS :=
  (sseq (spar 1 2 (acons (dop rAdd (dcon (.int 1)) (dcallf m_next (asrc 0 (acons (dcon (.int 6)) anil)))) (acons (dop rAdd (dcon (.int 2)) (dcallf m_next (asrc 0 (acons (dcon (.int 2)) anil)))) anil))) (sseq (spar3 3 4 5 (acons (dcallf m__law_pick (asrc 0 (acons (dlst (lcons (dcon (.int 1)) (lcons (dcon (.int 2)) (lcons (dcon (.int 2)) (lcons (dcon (.int 2)) (lcons (dcon (.int 4)) lnil)))))) anil))) (acons (dcallf m__law_pick (asrc 0 (acons (dlst (lcons (dcon (.int 0)) (lcons (dcon (.int 0)) (lcons (dcon (.int 0)) (lcons (dcon (.int 1)) (lcons (dcon (.int 3)) lnil)))))) anil))) (acons (dcallf m_next (asrc 0 (acons (dcon (.int 3)) anil))) anil)))) (sseq (sown 6 (flst lnil)) (sseq (sfor (irng1 (dvar 1)) (.one 7)
  (sseq (sown 8 (flst lnil)) (sseq (sfor (irng1 (dvar 2)) (.one 9)
  (sseq (spar 10 11 (acons (dcallf m_next (asrc 0 (acons (dvar 1) anil))) (acons (dcallf m_next (asrc 0 (acons (dvar 3) anil))) anil))) (sseq (sif (dtest (dop rEq (dvar 5) (dcon (.int 0))))
  (sseq (sset 10 (dop rMod (dcall rInt (lcons (dop rAdd (dvar 7) (dvar 9)) lnil)) (dvar 1))) (sset 11 (dif (dtest (dop rEq (dvar 9) (dcon (.int 0)))) (dif (dtest (dop rEq (dvar 7) (dcon (.int 0)))) (dcon (.int 1)) (dcon (.int 0))) (dcon (.int 0)))))
  snext) (sseq (sif (dand (dtest (dop rEq (dvar 5) (dcon (.int 1)))) (dtest (dop rEq (dvar 9) (dcon (.int 0)))))
  (sset 10 (dop rMod (dcall rInt (lcons (dop rAdd (dvar 7) (dcon (.int 1))) lnil)) (dvar 1)))
  snext) (sapp 8 (dif (dtest (dop rLt (dcallf m_next (asrc 0 (acons (dcon (.int 12)) anil))) (dvar 4))) (dcon .non) (dtup (lcons (dvar 10) (lcons (dvar 11) lnil))))))))) (sapp 6 (dcall rTuple (lcons (bvar 8) lnil)))))) (sret (dcall rTuple (lcons (bvar 6) lnil)))))))
@[irreducible] def m__law_table : RF := fnR 1 11 (r__law_table)
theorem e__law_table : m__law_table = fnR 1 11 (r__law_table) := by unfold m__law_table; rfl
theorem len__law_table : ∀ ss q, m__law_table ss q → ss.length = 1 := by rw [e__law_table]; exact fnR_len
theorem ok__law_table {P : Program} {w : World} {K : PySem.W.Frag} {mg : Str → Option Value} {base : Heap} {C : Addr} (B : Blt mg) (M : Mach K mg C) (G__law_next : Cal P w K mg base "_law_next" 1 2 m_next) (G__law_pick : Cal P w K mg base "_law_pick" 2 2 m__law_pick) (d : Def1 K mg "_law_table" st__law_table ["_law_h"]) : Cal P w K mg base "_law_table" 3 1 (m__law_table) := by
  rw [e__law_table]
  exact cal_of (k := 2) d sc__law_table fun f cdv A outer s H E hr =>
  (s_cons (s_par (i := 1) (j := 2) rfl sc__law_table.nd rfl rfl (by decide) rfl rfl (k_im (e_op o_add (e_b e_int) (e_b (e_cal G__law_next len__law_next (hr.mono (by decide)) (by rfl) (a_src (pv 0) (a_cons e_int a_nil))))) (k_im (e_op o_add (e_b e_int) (e_b (e_cal G__law_next len__law_next (hr.mono (by decide)) (by rfl) (a_src (pv 0) (a_cons e_int a_nil))))) k_nil)) (by rfl)) (s_cons (s_par3 (i := 3) (j := 4) (l := 5) rfl sc__law_table.nd rfl rfl rfl (by decide) (by decide) (by decide) rfl rfl rfl (k_im (e_cal G__law_pick len__law_pick (hr.mono (by decide)) (by rfl) (a_src (pv 0) (a_cons (e_lst (l_cons e_int (l_cons e_int (l_cons e_int (l_cons e_int (l_cons e_int l_nil)))))) a_nil))) (k_im (e_cal G__law_pick len__law_pick (hr.mono (by decide)) (by rfl) (a_src (pv 0) (a_cons (e_lst (l_cons e_int (l_cons e_int (l_cons e_int (l_cons e_int (l_cons e_int l_nil)))))) a_nil))) (k_im (e_cal G__law_next len__law_next (hr.mono (by decide)) (by rfl) (a_src (pv 0) (a_cons e_int a_nil))) k_nil))) (by rfl)) (s_cons (s_own (i := 6) sc__law_table.nd rfl (Or.inl rfl) (f_lst l_nil)) (s_cons (s_for PassesOwn.never rfl (i_rng1 (by rfl) B.range (e_var (pv 1))) (g_one sc__law_table.nd rfl (Or.inl rfl))
  (s_cons (s_own (i := 8) sc__law_table.nd rfl (Or.inl rfl) (f_lst l_nil)) (s_cons (s_for PassesOwn.never rfl (i_rng1 (by rfl) B.range (e_var (pv 2))) (g_one sc__law_table.nd rfl (Or.inl rfl))
  (s_cons (s_par (i := 10) (j := 11) rfl sc__law_table.nd rfl rfl (by decide) rfl rfl (k_im (e_cal G__law_next len__law_next (hr.mono (by decide)) (by rfl) (a_src (pv 0) (a_cons (e_var (pv 1)) a_nil))) (k_im (e_cal G__law_next len__law_next (hr.mono (by decide)) (by rfl) (a_src (pv 0) (a_cons (e_var (pv 3)) a_nil))) k_nil)) (by rfl)) (s_cons (s_if (t_cmp (o_eq hr) (e_b (e_var (pv 5))) (e_b e_int) (nomark _))
  (s_cons (s_set (i := 10) sc__law_table.nd rfl (Or.inl rfl) (e_op o_mod (e_b (e_callTy c_int (by rfl) B.int PyProof.Rows.boot_int (lb_cons (e_b (e_op o_add (e_b (e_var (pv 7))) (e_b (e_var (pv 9))))) lb_nil))) (e_b (e_var (pv 1))))) (s_one (s_set (i := 11) sc__law_table.nd rfl (Or.inl rfl) (e_if (t_cmp (o_eq hr) (e_b (e_var (pv 9))) (e_b e_int) (nomark _)) (e_if (t_cmp (o_eq hr) (e_b (e_var (pv 7))) (e_b e_int) (nomark _)) e_int e_int) e_int))))
  s_nil) (s_cons (s_if (w_t (w_and (t_cmp (o_eq hr) (e_b (e_var (pv 5))) (e_b e_int) (nomark _)) (w_and1 (t_cmp (o_eq hr) (e_b (e_var (pv 9))) (e_b e_int) (nomark _)))))
  (s_one (s_set (i := 10) sc__law_table.nd rfl (Or.inl rfl) (e_op o_mod (e_b (e_callTy c_int (by rfl) B.int PyProof.Rows.boot_int (lb_cons (e_b (e_op o_add (e_b (e_var (pv 7))) (e_b e_int))) lb_nil))) (e_b (e_var (pv 1))))))
  s_nil) (s_one (s_app (pv 8) (e_if (t_cmp o_lt (e_b (e_cal G__law_next len__law_next (hr.mono (by decide)) (by rfl) (a_src (pv 0) (a_cons e_int a_nil)))) (e_b (e_var (pv 4))) (nomark _)) e_non (e_tup (l_cons (e_var (pv 10)) (l_cons (e_var (pv 11)) l_nil)))))))))) (s_one (s_app (pv 6) (e_callTy c_tuple (by rfl) B.tuple PyProof.Rows.boot_tuple (lb_cons (b_var (pv 8)) lb_nil))))))) (s_one (s_ret (e_callTy c_tuple (by rfl) B.tuple PyProof.Rows.boot_tuple (lb_cons (b_var (pv 6)) lb_nil))))))))
/-! ### is_integer -/
abbrev st_is_integer : Stmt := top 8
abbrev N_is_integer : List Str := ["thing", "low", "high"]
theorem sc_is_integer : FnScope N_is_integer ["thing", "low", "high"] (defScope st_is_integer) := ⟨rfl, rfl, rfl, by decide +kernel, rfl, by decide +kernel, by decide +kernel⟩
def r_is_integer : RS :=
  (sret (dandv (disi "int" (dvar 0)) (dandv (dnotv (disi "bool" (dvar 0))) (dchain rLe rLe (dvar 1) (dvar 0) (dvar 2)))))
@[irreducible] def m_is_integer : RF := fnR 3 0 (r_is_integer)
theorem e_is_integer : m_is_integer = fnR 3 0 (r_is_integer) := by unfold m_is_integer; rfl
theorem len_is_integer : ∀ ss q, m_is_integer ss q → ss.length = 3 := by rw [e_is_integer]; exact fnR_len
theorem ok_is_integer {P : Program} {w : World} {K : PySem.W.Frag} {mg : Str → Option Value} {base : Heap} {C : Addr} (B : Blt mg) (M : Mach K mg C) (d : Def1 K mg "is_integer" st_is_integer ["thing", "low", "high"]) : Cal P w K mg base "is_integer" 1 3 (m_is_integer) := by
  rw [e_is_integer]
  exact cal_of (k := 0) d sc_is_integer fun f cdv A outer s H E hr =>
  (s_one (s_ret (e_and (e_isi (T := "int") (by decide) (by rfl) B.isi (by rfl) B.int PyProof.Rows.boot_int (e_b (e_var (pv 0)))) (e_and (e_not (e_isi (T := "bool") (by decide) (by rfl) B.isi (by rfl) B.bool PyProof.Rows.boot_bool (e_b (e_var (pv 0))))) (e_one (e_chain o_le o_le (e_b (e_var (pv 1))) (e_b (e_var (pv 0))) (e_b (e_var (pv 2)))))))))
/-! ### is_step -/
abbrev st_is_step : Stmt := top 9
abbrev N_is_step : List Str := ["thing", "stands"]
theorem sc_is_step : FnScope N_is_step ["thing", "stands"] (defScope st_is_step) := ⟨rfl, rfl, rfl, by decide +kernel, rfl, by decide +kernel, by decide +kernel⟩
def r_is_step : RS :=
  (sseq (sif (dtest (dop rIs (dvar 0) (dcon .non)))
  (sret (dcon (.bl true)))
  snext) (sseq (sif (dor (dnot (dtest (disi "tuple" (dvar 0)))) (dtest (dop rNe (dcall rLen (lcons (dvar 0) lnil)) (dcon (.int 2)))))
  (sret (dcon (.bl false)))
  snext) (sret (dandv (dcallf m_is_integer (acons (dop rIx (dvar 0) (dcon (.int 0))) (acons (dcon (.int 0)) (acons (dop rSub (dvar 1) (dcon (.int 1))) anil)))) (dcallf m_is_integer (acons (dop rIx (dvar 0) (dcon (.int 1))) (acons (dcon (.int 0)) (acons (dcon (.int 3)) anil))))))))
@[irreducible] def m_is_step : RF := fnR 2 0 (r_is_step)
theorem e_is_step : m_is_step = fnR 2 0 (r_is_step) := by unfold m_is_step; rfl
theorem len_is_step : ∀ ss q, m_is_step ss q → ss.length = 2 := by rw [e_is_step]; exact fnR_len
theorem ok_is_step {P : Program} {w : World} {K : PySem.W.Frag} {mg : Str → Option Value} {base : Heap} {C : Addr} (B : Blt mg) (M : Mach K mg C) (G_is_integer : Cal P w K mg base "is_integer" 1 3 m_is_integer) (c_MOST_WRITTEN : Con1 K mg "MOST_WRITTEN" (.int 3)) (d : Def1 K mg "is_step" st_is_step ["thing", "stands"]) : Cal P w K mg base "is_step" 2 2 (m_is_step) := by
  rw [e_is_step]
  exact cal_of (k := 1) d sc_is_step fun f cdv A outer s H E hr =>
  (s_cons (s_if (t_cmp o_is (e_b (e_var (pv 0))) (e_b e_non) (nomark _))
  (s_one (s_ret e_bl))
  s_nil) (s_cons (s_if (w_t (w_or (t_not (t_val (e_isi (T := "tuple") (by decide) (by rfl) B.isi (by rfl) B.tuple PyProof.Rows.boot_tuple (e_b (e_var (pv 0)))))) (w_or1 (t_cmp (o_ne hr) (e_b (e_callB c_len (by rfl) B.len PySem.boot_len (lb_cons (e_b (e_var (pv 0))) lb_nil))) (e_b e_int) (nomark _)))))
  (s_one (s_ret e_bl))
  s_nil) (s_one (s_ret (e_and (e_cal G_is_integer len_is_integer (hr.mono (by decide)) (by rfl) (a_cons (e_ix (e_b (e_var (pv 0))) (e_b e_int) (fun _ _ => rfl)) (a_cons e_int (a_cons (e_op o_sub (e_b (e_var (pv 1))) (e_b e_int)) a_nil)))) (e_one (e_cal G_is_integer len_is_integer (hr.mono (by decide)) (by rfl) (a_cons (e_ix (e_b (e_var (pv 0))) (e_b e_int) (fun _ _ => rfl)) (a_cons e_int (a_cons (e_glob c_MOST_WRITTEN (by rfl)) a_nil))))))))))
/-! ### check_table -/
abbrev st_check_table : Stmt := top 10
abbrev N_check_table : List Str := ["thing", "index", "row", "step"]
theorem sc_check_table : FnScope N_check_table ["thing"] (defScope st_check_table) := ⟨rfl, rfl, rfl, by decide +kernel, rfl, by decide +kernel, by decide +kernel⟩
def r_check_table : RS :=
  (sseq (sif (dor (dnot (dtest (disi "tuple" (dvar 0)))) (dnot (dtest (dchain rLe rLe (dcon (.int 1)) (dcall rLen (lcons (dvar 0) lnil)) (dcon (.int 6))))))
  snever
  snext) (sfor (ienum (dvar 0)) (.many [1, 2])
  (sseq (sif (dor (dnot (dtest (disi "tuple" (dvar 2)))) (dor (dtest (dop rNotIn (dcall rLen (lcons (dvar 2) lnil)) (dcon (.tup [(.int 2), (.int 3)])))) (dtest (dop rNe (dcall rLen (lcons (dvar 2) lnil)) (dcall rLen (lcons (dop rIx (dvar 0) (dcon (.int 0))) lnil))))))
  snever
  snext) (sif (dnot (dtest (dcall rAll (lcons (flst_ (flc (itup (dvar 2)) [3] (.one 3) dyes (dcallf m_is_step (acons (dvar 3) (acons (dcall rLen (lcons (dvar 0) lnil)) anil))))) lnil))))
  snever
  snext))))
@[irreducible] def m_check_table : RF := fnR 1 3 (r_check_table)
theorem e_check_table : m_check_table = fnR 1 3 (r_check_table) := by unfold m_check_table; rfl
theorem len_check_table : ∀ ss q, m_check_table ss q → ss.length = 1 := by rw [e_check_table]; exact fnR_len
theorem ok_check_table {P : Program} {w : World} {K : PySem.W.Frag} {mg : Str → Option Value} {base : Heap} {C : Addr} (B : Blt mg) (M : Mach K mg C) (G_is_step : Cal P w K mg base "is_step" 2 2 m_is_step) (c_MOST_STANDS : Con1 K mg "MOST_STANDS" (.int 6)) (c_LETTERS : Con1 K mg "LETTERS" (.tup [(.int 2), (.int 3)])) (d : Def1 K mg "check_table" st_check_table ["thing"]) : Cal P w K mg base "check_table" 3 1 (m_check_table) := by
  rw [e_check_table]
  exact cal_of (k := 2) d sc_check_table fun f cdv A outer s H E hr =>
  (s_cons (s_if (w_t (w_or (t_not (t_val (e_isi (T := "tuple") (by decide) (by rfl) B.isi (by rfl) B.tuple PyProof.Rows.boot_tuple (e_b (e_var (pv 0)))))) (w_or1 (t_not (t_chain o_le o_le (e_b e_int) (e_b (e_callB c_len (by rfl) B.len PySem.boot_len (lb_cons (e_b (e_var (pv 0))) lb_nil))) (e_b (e_glob c_MOST_STANDS (by rfl))))))))
  (s_one s_never)
  s_nil) (s_one (s_for PassesOwn.never rfl (i_enum (by rfl) B.enum (e_var (pv 0))) (g_many rfl (gs_cons (g_one sc_check_table.nd rfl (Or.inl rfl)) (gs_cons (g_one sc_check_table.nd rfl (Or.inl rfl)) gs_nil)))
  (s_cons (s_if (w_t (w_or (t_not (t_val (e_isi (T := "tuple") (by decide) (by rfl) B.isi (by rfl) B.tuple PyProof.Rows.boot_tuple (e_b (e_var (pv 2)))))) (w_or (t_cmp (o_notin hr) (e_b (e_callB c_len (by rfl) B.len PySem.boot_len (lb_cons (e_b (e_var (pv 2))) lb_nil))) (e_b (e_glob c_LETTERS (by rfl))) rfl) (w_or1 (t_cmp (o_ne hr) (e_b (e_callB c_len (by rfl) B.len PySem.boot_len (lb_cons (e_b (e_var (pv 2))) lb_nil))) (e_b (e_callB c_len (by rfl) B.len PySem.boot_len (lb_cons (e_b (e_ix (e_b (e_var (pv 0))) (e_b e_int) (fun _ _ => rfl))) lb_nil))) (nomark _))))))
  (s_one s_never)
  s_nil) (s_one (s_if (t_not (t_val (e_callB (c_all rfl) (by rfl) B.all PyProof.Rows.boot_all (lb_cons (e_b (f_e (f_lc (own := [("step", 3)]) (T := (.one 3)) rfl sc_check_table.nd (i_tup (e_var (pv 2))) (blkOk_by (own := [("step", 3)]) (N := N_check_table) (sc := defScope st_check_table) (by decide +kernel)) (by decide) (fun _ _ _ _ _ => (g_one sc_check_table.nd rfl (Or.inl rfl))) (fun _ _ _ _ _ => ts_nil) (fun _ _ _ _ _ => (e_cal G_is_step len_is_step (hr.mono (by decide)) (by rfl) (a_cons (e_var (pv 3)) (a_cons (e_callB c_len (by rfl) B.len PySem.boot_len (lb_cons (e_b (e_var (pv 0))) lb_nil)) a_nil))))))) lb_nil))))
  (s_one s_never)
  s_nil))))))
/-! ### _law_alike -/
abbrev st__law_alike : Stmt := top 23
abbrev N__law_alike : List Str := ["_law_found", "_law_due", "_law_k"]
theorem sc__law_alike : FnScope N__law_alike ["_law_found", "_law_due"] (defScope st__law_alike) := ⟨rfl, rfl, rfl, by decide +kernel, rfl, by decide +kernel, by decide +kernel⟩
def r__law_alike (self : RF) : RS :=
  (sseq (sif (dtest (disi2 "tuple" "list" (dvar 1)))
  (sseq (sif (dor (dnot (dtest (disi2 "tuple" "list" (dvar 0)))) (dtest (dop rNe (disi "list" (dvar 0)) (disi "list" (dvar 1)))))
  (sret (dcon (.bl false)))
  snext) (sseq (sif (dtest (dop rNe (dcall rLen (lcons (dvar 0) lnil)) (dcall rLen (lcons (dvar 1) lnil))))
  (sret (dcon (.bl false)))
  snext) (sret (dop rEq (flst_ (flc (irng1 (dcall rLen (lcons (dvar 1) lnil))) [2] (.one 2) (dnot (dtest (dcallf self (acons (dop rIx (dvar 0) (dvar 2)) (acons (dop rIx (dvar 1) (dvar 2)) anil))))) (dvar 2))) (dlst lnil)))))
  snext) (sseq (sif (dor (dtest (dop rIs (dvar 1) (dcon .non))) (dtest (disi "str" (dvar 1))))
  (sret (dandv (dop rEq (dvar 0) (dvar 1)) (dop rEq (disi "str" (dvar 0)) (disi "str" (dvar 1)))))
  snext) (sret (dandv (disi "int" (dvar 0)) (dandv (dop rEq (disi "bool" (dvar 0)) (disi "bool" (dvar 1))) (dop rEq (dvar 0) (dvar 1)))))))
@[irreducible] def m__law_alike (j : Nat) : RF := recR 2 1 (r__law_alike) j
theorem e0__law_alike : m__law_alike 0 = fun _ _ => False := by unfold m__law_alike; rfl
theorem e__law_alike (j : Nat) : m__law_alike (j + 1) = fnR 2 1 (r__law_alike (m__law_alike j)) := by unfold m__law_alike; rfl
theorem len__law_alike {j : Nat} : ∀ ss q, m__law_alike j ss q → ss.length = 2 := by
  cases j with
  | zero => rw [e0__law_alike]; exact fun _ _ h => h.elim
  | succ j => rw [e__law_alike]; exact fun _ _ h => h.1
theorem ok__law_alike {P : Program} {w : World} {K : PySem.W.Frag} {mg : Str → Option Value} {base : Heap} {C : Addr} (B : Blt mg) (M : Mach K mg C) (d : Def1 K mg "_law_alike" st__law_alike ["_law_found", "_law_due"]) : ∀ j : Nat, Cal P w K mg base "_law_alike" (j + 1) 2 (m__law_alike j)
  | 0 => by rw [e0__law_alike]; exact (cal_never d).mono (by omega)
  | j + 1 => by
    have G__law_alike := ok__law_alike (P := P) (w := w) (base := base) B M d j
    have hself : ∀ ss q, m__law_alike j ss q → ss.length = 2 := len__law_alike
    rw [e__law_alike]
    refine (cal_of (k := j + 1) d sc__law_alike fun f cdv A outer s H E hr => ?_ : Cal P w K mg base "_law_alike" (j + 1 + 1) 2 (fnR 2 1 (r__law_alike (m__law_alike j))))
    exact (s_cons (s_if (t_val (e_isi2 (T := "tuple") (U := "list") (by decide) (by decide) (by rfl) B.isi (by rfl) B.tuple PyProof.Rows.boot_tuple (by rfl) B.list PyProof.Rows.boot_list (e_b (e_var (pv 1)))))
  (s_cons (s_if (w_t (w_or (t_not (t_val (e_isi2 (T := "tuple") (U := "list") (by decide) (by decide) (by rfl) B.isi (by rfl) B.tuple PyProof.Rows.boot_tuple (by rfl) B.list PyProof.Rows.boot_list (e_b (e_var (pv 0)))))) (w_or1 (t_cmp (o_ne hr) (e_b (e_isi (T := "list") (by decide) (by rfl) B.isi (by rfl) B.list PyProof.Rows.boot_list (e_b (e_var (pv 0))))) (e_b (e_isi (T := "list") (by decide) (by rfl) B.isi (by rfl) B.list PyProof.Rows.boot_list (e_b (e_var (pv 1))))) (nomark _)))))
  (s_one (s_ret e_bl))
  s_nil) (s_cons (s_if (t_cmp (o_ne hr) (e_b (e_callB c_len (by rfl) B.len PySem.boot_len (lb_cons (e_b (e_var (pv 0))) lb_nil))) (e_b (e_callB c_len (by rfl) B.len PySem.boot_len (lb_cons (e_b (e_var (pv 1))) lb_nil))) (nomark _))
  (s_one (s_ret e_bl))
  s_nil) (s_one (s_ret (e_cmp (o_eq hr) (e_b (f_e (f_lc (own := [("_law_k", 2)]) (T := (.one 2)) rfl sc__law_alike.nd (i_rng1 (by rfl) B.range (e_callB c_len (by rfl) B.len PySem.boot_len (lb_cons (e_b (e_var (pv 1))) lb_nil))) (blkOk_by (own := [("_law_k", 2)]) (N := N__law_alike) (sc := defScope st__law_alike) (by decide +kernel)) (by decide) (fun _ _ _ _ _ => (g_one sc__law_alike.nd rfl (Or.inl rfl))) (fun _ _ _ _ _ => (ts_one (t_not (t_val (e_cal G__law_alike hself (hr.mono (by omega)) (by rfl) (a_cons (e_ix (e_b (e_var (pv 0))) (e_b (e_var (pv 2))) (fun _ _ => rfl)) (a_cons (e_ix (e_b (e_var (pv 1))) (e_b (e_var (pv 2))) (fun _ _ => rfl)) a_nil))))))) (fun _ _ _ _ _ => (e_var (pv 2)))))) (e_b (e_lst l_nil)) (nomark _))))))
  s_nil) (s_cons (s_if (w_t (w_or (t_cmp o_is (e_b (e_var (pv 1))) (e_b e_non) (nomark _)) (w_or1 (t_val (e_isi (T := "str") (by decide) (by rfl) B.isi (by rfl) B.str PyProof.Rows.boot_str (e_b (e_var (pv 1))))))))
  (s_one (s_ret (e_and (e_cmp (o_eq hr) (e_b (e_var (pv 0))) (e_b (e_var (pv 1))) (nomark _)) (e_one (e_cmp (o_eq hr) (e_b (e_isi (T := "str") (by decide) (by rfl) B.isi (by rfl) B.str PyProof.Rows.boot_str (e_b (e_var (pv 0))))) (e_b (e_isi (T := "str") (by decide) (by rfl) B.isi (by rfl) B.str PyProof.Rows.boot_str (e_b (e_var (pv 1))))) (nomark _))))))
  s_nil) (s_one (s_ret (e_and (e_isi (T := "int") (by decide) (by rfl) B.isi (by rfl) B.int PyProof.Rows.boot_int (e_b (e_var (pv 0)))) (e_and (e_cmp (o_eq hr) (e_b (e_isi (T := "bool") (by decide) (by rfl) B.isi (by rfl) B.bool PyProof.Rows.boot_bool (e_b (e_var (pv 0))))) (e_b (e_isi (T := "bool") (by decide) (by rfl) B.isi (by rfl) B.bool PyProof.Rows.boot_bool (e_b (e_var (pv 1))))) (nomark _)) (e_one (e_cmp (o_eq hr) (e_b (e_var (pv 0))) (e_b (e_var (pv 1))) (nomark _)))))))))
/-! ### all_words -/
abbrev st_all_words : Stmt := top 17
abbrev N_all_words : List Str := ["stands", "found", "stand", "sign"]
theorem sc_all_words : FnScope N_all_words ["stands"] (defScope st_all_words) := ⟨rfl, rfl, rfl, by decide +kernel, rfl, by decide +kernel, by decide +kernel⟩
def r_all_words : RS :=
  (sseq (sownD 1 (fdispK (dcon (.str "-")) (dcon .non))) (sseq (sfor (irng1 (dvar 0)) (.one 2)
  (sfor (irng1 (dop rAdd (dcon (.int 3)) (dcon (.int 1)))) (.one 3)
  (sput 1 (dfs2 ":" (dvar 2) (dvar 3)) (dtup (lcons (dvar 2) (lcons (dvar 3) lnil)))))) (sfrz 1 (sret (dvar 1)))))
@[irreducible] def m_all_words : RF := fnR 1 3 (r_all_words)
theorem e_all_words : m_all_words = fnR 1 3 (r_all_words) := by unfold m_all_words; rfl
theorem len_all_words : ∀ ss q, m_all_words ss q → ss.length = 1 := by rw [e_all_words]; exact fnR_len
theorem ok_all_words {P : Program} {w : World} {K : PySem.W.Frag} {mg : Str → Option Value} {base : Heap} {C : Addr} (B : Blt mg) (M : Mach K mg C) (c_LACKS : Con1 K mg "LACKS" (.str "-")) (c_MOST_WRITTEN : Con1 K mg "MOST_WRITTEN" (.int 3)) (d : Def1 K mg "all_words" st_all_words ["stands"]) : Cal P w K mg base "all_words" 1 1 (m_all_words) := by
  rw [e_all_words]
  exact cal_of (k := 0) d sc_all_words fun f cdv A outer s H E hr =>
  (s_cons (s_ownD (j := 1) sc_all_words.nd rfl (Or.inl rfl) (fd_dispK (e_glob c_LACKS (by rfl)) e_non)) (s_cons (s_for PassesOwn.never rfl (i_rng1 (by rfl) B.range (e_var (pv 0))) (g_one sc_all_words.nd rfl (Or.inl rfl))
  (s_one (s_for PassesOwn.never rfl (i_rng1 (by rfl) B.range (e_op o_add (e_b (e_glob c_MOST_WRITTEN (by rfl))) (e_b e_int))) (g_one sc_all_words.nd rfl (Or.inl rfl))
  (s_one (s_put hr (pv 1) (e_fs2 (e_var (pv 2)) (e_var (pv 3))) (e_tup (l_cons (e_var (pv 2)) (l_cons (e_var (pv 3)) l_nil)))))))) (s_frz (s_one (s_ret (e_var (pv 1)))))))
/-! ### take_row -/
abbrev st_take_row : Stmt := top 18
abbrev N_take_row : List Str := ["words", "known", "letters", "at", "most", "found", "place", "word"]
theorem sc_take_row : FnScope N_take_row ["words", "known", "letters", "at"] (defScope st_take_row) := ⟨rfl, rfl, rfl, by decide +kernel, rfl, by decide +kernel, by decide +kernel⟩
def r_take_row : RS :=
  (sseq (sif (dtest (dop rNe (dsl (dvar 0) dno (dpart (dcon (.int 1)))) (dlst (lcons (dcon (.str "stand")) lnil))))
  snever
  snext) (sseq (sset 4 (dif (dtest (dop rIsNot (dvar 2) (dcon .non))) (dvar 2) (dcall rMaxT (lcons (dcon (.tup [(.int 2), (.int 3)])) lnil)))) (sseq (sown 5 (flst lnil)) (sseq (sfor (ienumL (2) (dsl (dvar 0) (dpart (dcon (.int 1))) dno)) (.many [6, 7])
  (sseq (sif (dor (dtest (dop rNotInD (dvar 7) (dvar 1))) (dtest (dop rGe (dcall rLen (lcons (bvar 5) lnil)) (dvar 4))))
  snever
  snext) (sapp 5 (dop rIxD (dvar 1) (dvar 7))))) (sseq (sif (dtest (dop rLt (dcall rLen (lcons (bvar 5) lnil)) (dif (dtest (dop rIsNot (dvar 2) (dcon .non))) (dvar 2) (dcall rMinT (lcons (dcon (.tup [(.int 2), (.int 3)])) lnil)))))
  snever
  snext) (sret (dcall rTuple (lcons (bvar 5) lnil))))))))
@[irreducible] def m_take_row : RF := fnR 4 4 (r_take_row)
theorem e_take_row : m_take_row = fnR 4 4 (r_take_row) := by unfold m_take_row; rfl
theorem len_take_row : ∀ ss q, m_take_row ss q → ss.length = 4 := by rw [e_take_row]; exact fnR_len
theorem ok_take_row {P : Program} {w : World} {K : PySem.W.Frag} {mg : Str → Option Value} {base : Heap} {C : Addr} (B : Blt mg) (M : Mach K mg C) (c_HEAD : Con1 K mg "HEAD" (.str "stand")) (c_LETTERS : Con1 K mg "LETTERS" (.tup [(.int 2), (.int 3)])) (d : Def1 K mg "take_row" st_take_row ["words", "known", "letters", "at"]) : Cal P w K mg base "take_row" 1 4 (m_take_row) := by
  rw [e_take_row]
  exact cal_of (k := 0) d sc_take_row fun f cdv A outer s H E hr =>
  (s_cons (s_if (t_cmp (o_ne hr) (e_b (e_slice (e_b (e_var (pv 0))) x_none (x_some e_int))) (e_b (e_lst (l_cons (e_glob c_HEAD (by rfl)) l_nil))) (nomark _))
  (s_one s_never)
  s_nil) (s_cons (s_set (i := 4) sc_take_row.nd rfl (Or.inl rfl) (e_if (t_cmp o_isnot (e_b (e_var (pv 2))) (e_b e_non) (nomark _)) (e_var (pv 2)) (e_callB (c_maxT rfl) (by rfl) B.max PyProof.Rows.boot_max (lb_cons (e_b (e_glob c_LETTERS (by rfl))) lb_nil)))) (s_cons (s_own (i := 5) sc_take_row.nd rfl (Or.inl rfl) (f_lst l_nil)) (s_cons (s_for PassesOwn.never rfl (i_enumL (by decide) (by decide) (by rfl) B.enum (e_slice (e_b (e_var (pv 0))) (x_some e_int) x_none)) (g_many rfl (gs_cons (g_one sc_take_row.nd rfl (Or.inl rfl)) (gs_cons (g_one sc_take_row.nd rfl (Or.inl rfl)) gs_nil)))
  (s_cons (s_if (w_t (w_or (t_cmp (o_notinD hr) (e_b (e_var (pv 7))) (e_b (e_var (pv 1))) rfl) (w_or1 (t_cmp o_ge (e_b (e_callB c_len (by rfl) B.len PySem.boot_len (lb_cons (b_var (pv 5)) lb_nil))) (e_b (e_var (pv 4))) (nomark _)))))
  (s_one s_never)
  s_nil) (s_one (s_app (pv 5) (e_ixD hr (e_b (e_var (pv 1))) (e_b (e_var (pv 7))) (fun _ _ => rfl)))))) (s_cons (s_if (t_cmp o_lt (e_b (e_callB c_len (by rfl) B.len PySem.boot_len (lb_cons (b_var (pv 5)) lb_nil))) (e_b (e_if (t_cmp o_isnot (e_b (e_var (pv 2))) (e_b e_non) (nomark _)) (e_var (pv 2)) (e_callB (c_minT rfl) (by rfl) B.min PyProof.Rows.boot_min (lb_cons (e_b (e_glob c_LETTERS (by rfl))) lb_nil)))) (nomark _))
  (s_one s_never)
  s_nil) (s_one (s_ret (e_callTy c_tuple (by rfl) B.tuple PyProof.Rows.boot_tuple (lb_cons (b_var (pv 5)) lb_nil)))))))))
/-! ### read -/
abbrev st_read : Stmt := top 19
abbrev N_read : List Str := ["text", "lines", "known", "rows", "at", "words", "line", "word"]
theorem sc_read : FnScope N_read ["text"] (defScope st_read) := ⟨rfl, rfl, rfl, by decide +kernel, rfl, by decide +kernel, by decide +kernel⟩
def r_read (C : Addr) : RS :=
  (sseq (sset 1 (flst_ (flc (ilst (dsplit (dvar 0) (dcon (.str "\n")))) [6] (.one 6) dyes (flst_ (flc (ilst (dsplit (dvar 6) (dcon (.str " ")))) [7] (.one 7) (dtest (dop rNe (dvar 7) (dcon (.str "")))) (dvar 7)))))) (sseq (spar 2 3 (acons (dcallf m_all_words (acons (dcall rMin2 (lcons (dcall rLen (lcons (dvar 1) lnil)) (lcons (dcon (.int 6)) lnil))) anil)) (kml (flst lnil) anil))) (sseq (sfor (ienumL (1) (dvar 1)) (.many [4, 5])
  (sseq (sif (dtest (dop rGt (dvar 4) (dcon (.int 6))))
  snever
  snext) (sapp 3 (dcallf m_take_row (acons (dvar 5) (acons (dvar 2) (acons (dif (dtest (dop rNe (bvar 3) (dlst lnil))) (dcall rLen (lcons (dop rIx (bvar 3) (dcon (.int 0))) lnil)) (dcon .non)) (acons (dvar 4) anil)))))))) (sret (dmake C m_check_table (dcall rTuple (lcons (bvar 3) lnil)))))))
@[irreducible] def m_read (C : Addr) : RF := fnR 1 7 (r_read C)
theorem e_read (C : Addr) : m_read C = fnR 1 7 (r_read C) := by unfold m_read; rfl
theorem len_read {C : Addr} : ∀ ss q, m_read C ss q → ss.length = 1 := by rw [e_read]; exact fnR_len
theorem ok_read {P : Program} {w : World} {K : PySem.W.Frag} {mg : Str → Option Value} {base : Heap} {C : Addr} (B : Blt mg) (M : Mach K mg C) (G_all_words : Cal P w K mg base "all_words" 1 1 m_all_words) (G_take_row : Cal P w K mg base "take_row" 1 4 m_take_row) (G_check_table : Cal P w K mg base "check_table" 3 1 m_check_table) (G_make : MkOk P w K mg base C 4 m_check_table) (c_MOST_STANDS : Con1 K mg "MOST_STANDS" (.int 6)) (d : Def1 K mg "read" st_read ["text"]) : Cal P w K mg base "read" 6 1 (m_read C) := by
  rw [e_read]
  exact cal_of (k := 5) d sc_read fun f cdv A outer s H E hr =>
  (s_cons (s_setLc (own := [("line", 6)]) (T := (.one 6)) (i := 1) rfl sc_read.nd rfl rfl (sw_true rfl rfl rfl (by decide +kernel)) (i_lst (e_split (e_var (pv 0)) e_str)) (blkOk_by (own := [("line", 6)]) (N := N_read) (sc := defScope st_read) (by decide +kernel)) (by decide) (fun _ _ _ _ _ => (g_one sc_read.nd rfl (Or.inl rfl))) (fun _ _ _ _ _ => ts_nil) (fun _ _ _ _ _ => (f_e (f_lc (own := [("word", 7)]) (T := (.one 7)) rfl sc_read.nd (i_lst (e_split (e_var (pv 6)) e_str)) (blkOk_by (by rfl)) (by decide) (fun _ _ _ _ _ => (g_one sc_read.nd rfl (Or.inl rfl))) (fun _ _ _ _ _ => (ts_one (t_cmp (o_ne hr) (e_b (e_var (pv 7))) (e_b e_str) (nomark _)))) (fun _ _ _ _ _ => (e_var (pv 7))))))) (s_cons (s_par (i := 2) (j := 3) rfl sc_read.nd rfl rfl (by decide) rfl rfl (k_im (e_cal G_all_words len_all_words (hr.mono (by decide)) (by rfl) (a_cons (e_callB (c_min2 rfl) (by rfl) B.min PyProof.Rows.boot_min (lb_cons (e_b (e_callB c_len (by rfl) B.len PySem.boot_len (lb_cons (e_b (e_var (pv 1))) lb_nil))) (lb_cons (e_b (e_glob c_MOST_STANDS (by rfl))) lb_nil))) a_nil)) (k_ml (f_lst l_nil) k_nil)) (by rfl)) (s_cons (s_for PassesOwn.never rfl (i_enumL (by decide) (by decide) (by rfl) B.enum (e_var (pv 1))) (g_many rfl (gs_cons (g_one sc_read.nd rfl (Or.inl rfl)) (gs_cons (g_one sc_read.nd rfl (Or.inl rfl)) gs_nil)))
  (s_cons (s_if (t_cmp o_gt (e_b (e_var (pv 4))) (e_b (e_glob c_MOST_STANDS (by rfl))) (nomark _))
  (s_one s_never)
  s_nil) (s_one (s_app (pv 3) (e_cal G_take_row len_take_row (hr.mono (by decide)) (by rfl) (a_cons (e_var (pv 5)) (a_cons (e_var (pv 2)) (a_cons (e_if (t_cmp (o_ne hr) (b_var (pv 3)) (e_b (e_lst l_nil)) (nomark _)) (e_callB c_len (by rfl) B.len PySem.boot_len (lb_cons (e_b (e_ix (b_var (pv 3)) (e_b e_int) (fun _ _ => rfl))) lb_nil)) e_non) (a_cons (e_var (pv 4)) a_nil))))))))) (s_one (s_ret (e_make G_make (hr.mono (by decide)) (by rfl) M.mgC (e_callTy c_tuple (by rfl) B.tuple PyProof.Rows.boot_tuple (lb_cons (b_var (pv 3)) lb_nil))))))))
/-! ### law -/
abbrev st_law : Stmt := top 26
abbrev N_law : List Str := ["_law_script", "_law_h", "_law_turn", "_law_table_here", "_law_lines", "_law_row", "_law_words", "_law_text", "_law_wide", "_law_line", "_law_room", "_law_ends", "_law_some", "_law_found", "_law_step"]
theorem sc_law : FnScope N_law ["_law_script"] (defScope st_law) := ⟨rfl, rfl, rfl, by decide +kernel, rfl, by decide +kernel, by decide +kernel⟩
def r_law (C : Addr) : RS :=
  (sseq (sfor (irng1 (dcon (.int 5))) (.one 2)
  (sseq (spar 3 4 (acons (dcallf m__law_table (asrc 1 anil)) (kml (flst lnil) anil))) (sseq (sfor (itup (dvar 3)) (.one 5)
  (sseq (sset 6 (flst_ (flc (itup (dvar 5)) [14] (.one 14) dyes (dif (dtest (dop rIs (dvar 14) (dcon .non))) (dcon (.str "-")) (dop rAddS (dop rAddS (dcall rStrI (lcons (dop rIx (dvar 14) (dcon (.int 0))) lnil)) (dcon (.str ":"))) (dcall rStrI (lcons (dop rIx (dvar 14) (dcon (.int 1))) lnil))))))) (sapp 4 (djoin (dcon (.str " ")) (dop rAdd (dlst (lcons (dcon (.str "stand")) lnil)) (dvar 6)))))) (sseq (sset 7 (dcallf (m_write C) (acons (dmake C m_check_table (dvar 3)) anil))) (sfrz 4 (sseq (sif (dnot (dtest (dcallf (m__law_alike 9) (acons (dvar 7) (acons (djoin (dcon (.str "\n")) (dvar 4)) anil)))))
  (sret (dcon (.bl false)))
  snext) (sseq (sown 8 (flst lnil)) (sfrz 4 (sseq (sfor (ilst (dvar 4)) (.one 9)
  (sreplW 10 11 9 8 " " (dop rAdd (dcon (.int 1)) (dcallf m_next (asrc 1 (acons (dcon (.int 3)) anil)))) (dlst (lcons (dop rMulS (dcon (.str " ")) (dcallf m_next (asrc 1 (acons (dcon (.int 3)) anil)))) (lcons (dop rMulS (dcon (.str " ")) (dcallf m_next (asrc 1 (acons (dcon (.int 2)) anil)))) lnil))))) (sfrz 8 (sfor (ilst (dlst (lcons (dvar 7) (lcons (djoin (dcon (.str "\n")) (dvar 8)) lnil)))) (.one 12)
  (sseq (sset 13 (dcallf (m_read C) (acons (dvar 12) anil))) (sif (dor (dnot (dtest (dcallf (m__law_alike 9) (acons (dprop C (m_p_table C) (dvar 13)) (acons (dvar 3) anil))))) (dor (dnot (dtest (deqo C (m_q_eq C) (dvar 13) (dmake C m_check_table (dvar 3))))) (dnot (dtest (dcallf (m__law_alike 9) (acons (dcallf (m_write C) (acons (dvar 13) anil)) (acons (dvar 7) anil)))))))
  (sret (dcon (.bl false)))
  snext))))))))))))) (sret (dcon (.bl true))))
theorem ss_law {P : Program} {w : World} {K : PySem.W.Frag} {mg : Str → Option Value} {base : Heap} {C : Addr} (B : Blt mg) (M : Mach K mg C) (G__law_table : Cal P w K mg base "_law_table" 3 1 m__law_table) (G_check_table : Cal P w K mg base "check_table" 3 1 m_check_table) (G_write : Cal P w K mg base "write" 2 1 (m_write C)) (G__law_alike : Cal P w K mg base "_law_alike" 10 2 (m__law_alike 9)) (G__law_next : Cal P w K mg base "_law_next" 1 2 m_next) (G_read : Cal P w K mg base "read" 6 1 (m_read C)) (P_table : PrOk P w K mg base C "table" 1 (m_p_table C)) (G_make : MkOk P w K mg base C 4 m_check_table) (nb : NoBook K) (Q_eq : MethEq P w K mg base C 1 (m_q_eq C)) {f : Addr} {cdv : Value} {A : Around} {outer : List Env} {s : Shared} {H : Hp} {E : XK} (hr : Room 10 (A.deeper (PyProof.Rows.envOfC "law" (defScope st_law) s.heap.objs.size f cdv))) :
    SsD (cxOf CX0 P w K mg base N_law "law" (defScope st_law) f cdv A outer s H E).nox ((defBody st_law).drop 1) (r_law C) :=
  (s_cons (s_for PassesOwn.never rfl (i_rng1 (by rfl) B.range e_int) (g_one sc_law.nd rfl (Or.inl rfl))
  (s_cons (s_par (i := 3) (j := 4) rfl sc_law.nd rfl rfl (by decide) rfl rfl (k_im (e_cal G__law_table len__law_table (hr.mono (by decide)) (by rfl) (a_src (pv 1) a_nil)) (k_ml (f_lst l_nil) k_nil)) (by rfl)) (s_cons (s_for PassesOwn.never rfl (i_tup (e_var (pv 3))) (g_one sc_law.nd rfl (Or.inl rfl))
  (s_cons (s_setLc (own := [("_law_step", 14)]) (T := (.one 14)) (i := 6) rfl sc_law.nd rfl rfl (sw_true rfl rfl rfl (by decide +kernel)) (i_tup (e_var (pv 5))) (blkOk_by (own := [("_law_step", 14)]) (N := N_law) (sc := defScope st_law) (by decide +kernel)) (by decide) (fun _ _ _ _ _ => (g_one sc_law.nd rfl (Or.inl rfl))) (fun _ _ _ _ _ => ts_nil) (fun _ _ _ _ _ => (e_if (t_cmp o_is (e_b (e_var (pv 14))) (e_b e_non) (nomark _)) e_str (e_op o_addS (e_b (e_op o_addS (e_b (e_callTy c_strI (by rfl) B.str PyProof.Rows.boot_str (lb_cons (e_b (e_ix (e_b (e_var (pv 14))) (e_b e_int) (fun _ _ => rfl))) lb_nil))) (e_b e_str))) (e_b (e_callTy c_strI (by rfl) B.str PyProof.Rows.boot_str (lb_cons (e_b (e_ix (e_b (e_var (pv 14))) (e_b e_int) (fun _ _ => rfl))) lb_nil))))))) (s_one (s_app (pv 4) (e_join e_str (e_op o_add (e_b (e_lst (l_cons e_str l_nil))) (e_b (e_var (pv 6))))))))) (s_cons (s_set (i := 7) sc_law.nd rfl (Or.inl rfl) (e_cal G_write len_write (hr.mono (by decide)) (by rfl) (a_cons (e_make G_make (hr.mono (by decide)) (by rfl) M.mgC (e_var (pv 3))) a_nil))) (s_frz (s_cons (s_if (t_not (t_val (e_cal G__law_alike len__law_alike (hr.mono (by decide)) (by rfl) (a_cons (e_var (pv 7)) (a_cons (e_join e_str (e_var (pv 4))) a_nil)))))
  (s_one (s_ret e_bl))
  s_nil) (s_cons (s_own (i := 8) sc_law.nd rfl (Or.inl rfl) (f_lst l_nil)) (s_frz (s_cons (s_forN PassesOwn.never rfl sc_law.nd (i := 9) rfl rfl (i_lst (e_var (pv 4)))
  (ss_replW nb rfl sc_law.nd rfl rfl rfl rfl (by decide) (by decide) (by decide) (by decide) (by decide) rfl rfl rfl rfl (e_op o_add (e_b e_int) (e_b (e_cal G__law_next len__law_next (hr.mono (by decide)) (by rfl) (a_src (pv 1) (a_cons e_int a_nil))))) (e_lst (l_cons (e_op o_mulS (e_b e_str) (e_b (e_cal G__law_next len__law_next (hr.mono (by decide)) (by rfl) (a_src (pv 1) (a_cons e_int a_nil))))) (l_cons (e_op o_mulS (e_b e_str) (e_b (e_cal G__law_next len__law_next (hr.mono (by decide)) (by rfl) (a_src (pv 1) (a_cons e_int a_nil))))) l_nil))) (by decide) rfl)) (s_frz (s_one (s_for PassesOwn.never rfl (i_lst (e_lst (l_cons (e_var (pv 7)) (l_cons (e_join e_str (e_var (pv 8))) l_nil)))) (g_one sc_law.nd rfl (Or.inl rfl))
  (s_cons (s_set (i := 13) sc_law.nd rfl (Or.inl rfl) (e_cal G_read len_read (hr.mono (by decide)) (by rfl) (a_cons (e_var (pv 12)) a_nil))) (s_one (s_if (w_t (w_or (t_not (t_val (e_cal G__law_alike len__law_alike (hr.mono (by decide)) (by rfl) (a_cons (e_prop M.cl P_table (hr.mono (by decide)) (e_var (pv 13))) (a_cons (e_var (pv 3)) a_nil))))) (w_or (t_not (t_eqo Q_eq (hr.mono (by decide)) (e_var (pv 13)) (e_make G_make (hr.mono (by decide)) (by rfl) M.mgC (e_var (pv 3))) (nomark _))) (w_or1 (t_not (t_val (e_cal G__law_alike len__law_alike (hr.mono (by decide)) (by rfl) (a_cons (e_cal G_write len_write (hr.mono (by decide)) (by rfl) (a_cons (e_var (pv 13)) a_nil)) (a_cons (e_var (pv 7)) a_nil)))))))))
  (s_one (s_ret e_bl))
  s_nil))))))))))))))) (s_one (s_ret e_bl)))
/-! ### Machine.__init__ -/
abbrev st_init : Stmt := inClass (top 11) 0
theorem sc_init : FnScope ["self", "table"] ["self", "table"] (defScope st_init) := ⟨rfl, rfl, rfl, by decide +kernel, rfl, by decide +kernel, by decide +kernel⟩
theorem ok_init {P : Program} {w : World} {K : PySem.W.Frag} {mg : Str → Option Value} {base : Heap} {C fI : Addr} {fd : FuncData} (M : Mach K mg C) (G : Cal P w K mg base "check_table" 3 1 m_check_table) (F : Fun K "__init__" "Machine.__init__" st_init fI fd) :
    FnOk P w K mg base CX0 4 fI fd ["self", "table"] (spInit K C m_check_table) := by
  obtain ⟨f, fdc, ps, e1, G, hm, hk, hb⟩ := G
  refine F.ok (k := 3) sc_init (fun vs H Q E h => ?_) (fun cdv A outer s H vs Q E hr h => ?_)
  · obtain ⟨x, dx, v, F', d, q, rfl, _⟩ := h
    rfl
  · obtain ⟨x, dx, v, F', d, q, rfl, hx, nW, hK, hH, hh, hw, hl, so, hd, ht, k⟩ := h
    refine ⟨_, pss_cons (ps_expr (pe_call G hr rfl hm hk hb .nil pass0 (pa_cons (pv 1) pa_nil))) (pss_one (ps_fld (pv 0) (pv 1) rfl)), ?_⟩
    refine ⟨v, rfl, F', [.im d], q, hK, hH, hh, hw, hl, so, rfl, ⟨hd, trivial⟩, ht, fun r hr' u H' x1 hu => ?_⟩
    exact ⟨_, rfl, _, rfl, x, C, dx, [], rfl, x1.1 x _ hx nW, M.cl, M.nR, (by show 0 < 1000; decide), k r hr' H' x1⟩
/-! ### the law -/
theorem ok_law {P : Program} {w : World} {K : PySem.W.Frag} {mg : Str → Option Value} {base : Heap} {C : Addr} (B : Blt mg) (M : Mach K mg C) (G__law_table : Cal P w K mg base "_law_table" 3 1 m__law_table) (G_check_table : Cal P w K mg base "check_table" 3 1 m_check_table) (G_write : Cal P w K mg base "write" 2 1 (m_write C)) (G__law_alike : Cal P w K mg base "_law_alike" 10 2 (m__law_alike 9)) (G__law_next : Cal P w K mg base "_law_next" 1 2 m_next) (G_read : Cal P w K mg base "read" 6 1 (m_read C)) (P_table : PrOk P w K mg base C "table" 1 (m_p_table C)) (G_make : MkOk P w K mg base C 4 m_check_table) (nb : NoBook K) (Q_eq : MethEq P w K mg base C 1 (m_q_eq C)) (good : Good (r_law C) 13) {f fx : Addr} {fd fdx : FuncData} (Fx : Fun K "_law_mix" "_law_mix" st__law_mix fx fdx) (mx : mg "_law_mix" = some (.ref fx)) (bx : Binds K fdx ["_law_script", "_law_seed"] []) (F : Fun K "law" "law" st_law f fd) :
    FnOk P w K mg base CX0 11 f fd ["_law_script"] (spLaw K) := by
  refine F.ok (k := 10) sc_law (fun vs H Q E h => ?_) (fun cdv A outer s H vs Q E hr h => ?_)
  · obtain ⟨a, ns, rfl, _⟩ := h
    rfl
  · obtain ⟨a, ns, rfl, hs, hl, k⟩ := h
    refine ⟨_, pss_cons (ps_set (i := 1) sc_law.nd rfl (Or.inl rfl) (pe_call (ok_mix B Fx) (hr.mono (by decide)) rfl mx Fx.kp bx .nil pass0 (pa_cons (pv 0) (pa_cons pe_int pa_nil)))) (law_rest (m := 13) (ss_law B M G__law_table G_check_table G_write G__law_alike G__law_next G_read P_table G_make nb Q_eq hr) good), ?_⟩
    refine ⟨_, rfl, a, ns, 12, rfl, hs, hl, fun H' p c sm hp hc sr => ?_⟩
    exact ⟨H, p, c, some (.ref a), rfl, hp, hc, sr, sm, k⟩
/-! ### what the top has left -/
theorem all_mk {l : PySem.W.OpenLaw} {w : World} {K : PySem.W.Frag} {h : Heap} {mg : Str → Option Value} {fa : Addr} (X : K.In h) (G : h.Ns mainGlobals mg) (hfa : mg "law" = some (.ref fa))
    (good : ∀ C : Addr, Good (r_law C) 13)
    {f0 : Addr} {od0 an0 : Option Addr} {sl0 : Array (Option Value)} {oc0 kV0 dc0 pm0 cd0 ct0 : Value}
    {f1 : Addr} {od1 an1 : Option Addr} {sl1 : Array (Option Value)} {oc1 kV1 dc1 pm1 cd1 ct1 : Value}
    {f2 : Addr} {od2 an2 : Option Addr} {sl2 : Array (Option Value)} {oc2 kV2 dc2 pm2 cd2 ct2 : Value}
    {f3 : Addr} {od3 an3 : Option Addr} {sl3 : Array (Option Value)} {oc3 kV3 dc3 pm3 cd3 ct3 : Value}
    {f4 : Addr} {od4 an4 : Option Addr} {sl4 : Array (Option Value)} {oc4 kV4 dc4 pm4 cd4 ct4 : Value}
    {f5 : Addr} {od5 an5 : Option Addr} {sl5 : Array (Option Value)} {oc5 kV5 dc5 pm5 cd5 ct5 : Value}
    {f6 : Addr} {od6 an6 : Option Addr} {sl6 : Array (Option Value)} {oc6 kV6 dc6 pm6 cd6 ct6 : Value}
    {f7 : Addr} {od7 an7 : Option Addr} {sl7 : Array (Option Value)} {oc7 kV7 dc7 pm7 cd7 ct7 : Value}
    {f8 : Addr} {od8 an8 : Option Addr} {sl8 : Array (Option Value)} {oc8 kV8 dc8 pm8 cd8 ct8 : Value}
    {f9 : Addr} {od9 an9 : Option Addr} {sl9 : Array (Option Value)} {oc9 kV9 dc9 pm9 cd9 ct9 : Value}
    {f10 : Addr} {od10 an10 : Option Addr} {sl10 : Array (Option Value)} {oc10 kV10 dc10 pm10 cd10 ct10 : Value}
    {f11 : Addr} {od11 an11 : Option Addr} {sl11 : Array (Option Value)} {oc11 kV11 dc11 pm11 cd11 ct11 : Value}
    {f12 : Addr} {od12 an12 : Option Addr} {sl12 : Array (Option Value)} {oc12 kV12 dc12 pm12 cd12 ct12 : Value}
    {f13 : Addr} {od13 an13 : Option Addr} {sl13 : Array (Option Value)} {oc13 kV13 dc13 pm13 cd13 ct13 : Value}
    {C fI : Addr} {odI anI : Option Addr} {slI : Array (Option Value)} {ocI kVI dcI pmI cdI ctI : Value}
    {pp_table pg_table : Addr} {pr_table : List Value} {od_table an_table : Option Addr} {sl_table : Array (Option Value)} {oc_table kV_table dc_table pm_table cd_table ct_table : Value}
    {qf_eq : Addr} {qod_eq qan_eq : Option Addr} {qsl_eq : Array (Option Value)} {qoc_eq qkV_eq qdc_eq qpm_eq qcd_eq qct_eq : Value}
    {t_LACKS : Tok}
    {t_HEAD : Tok}
    {t_MOST_WRITTEN : Tok}
    {t_MOST_STANDS : Tok}
    {p_LETTERS : Addr} {n_LETTERS : Nat} {t_LETTERS_0 : Tok} {t_LETTERS_1 : Tok}
    (a0 : PySem.W.nsIn K mainGlobals "_law_mix" = some (some (.ref f0))) (l0 : K.lookup f0 = some ⟨oc0, od0, .func (PySem.W.fnOf "_law_mix" "_law_mix" (defArgs st__law_mix) (defBody st__law_mix) (defScope st__law_mix) .none kV0 dc0 pm0 an0 cd0 ct0), sl0⟩) (c0 : PySem.W.codeIn K cd0 "_law_mix" = true) (k0 : PySem.W.keepIn K (.ref f0) = true)
    (a1 : PySem.W.nsIn K mainGlobals "step_text" = some (some (.ref f1))) (l1 : K.lookup f1 = some ⟨oc1, od1, .func (PySem.W.fnOf "step_text" "step_text" (defArgs st_step_text) (defBody st_step_text) (defScope st_step_text) .none kV1 dc1 pm1 an1 cd1 ct1), sl1⟩) (c1 : PySem.W.codeIn K cd1 "step_text" = true) (k1 : PySem.W.keepIn K (.ref f1) = true)
    (a2 : PySem.W.nsIn K mainGlobals "write" = some (some (.ref f2))) (l2 : K.lookup f2 = some ⟨oc2, od2, .func (PySem.W.fnOf "write" "write" (defArgs st_write) (defBody st_write) (defScope st_write) .none kV2 dc2 pm2 an2 cd2 ct2), sl2⟩) (c2 : PySem.W.codeIn K cd2 "write" = true) (k2 : PySem.W.keepIn K (.ref f2) = true)
    (a3 : PySem.W.nsIn K mainGlobals "_law_next" = some (some (.ref f3))) (l3 : K.lookup f3 = some ⟨oc3, od3, .func (PySem.W.fnOf "_law_next" "_law_next" (defArgs st__law_next) (defBody st__law_next) (defScope st__law_next) .none kV3 dc3 pm3 an3 cd3 ct3), sl3⟩) (c3 : PySem.W.codeIn K cd3 "_law_next" = true) (k3 : PySem.W.keepIn K (.ref f3) = true)
    (a4 : PySem.W.nsIn K mainGlobals "_law_pick" = some (some (.ref f4))) (l4 : K.lookup f4 = some ⟨oc4, od4, .func (PySem.W.fnOf "_law_pick" "_law_pick" (defArgs st__law_pick) (defBody st__law_pick) (defScope st__law_pick) .none kV4 dc4 pm4 an4 cd4 ct4), sl4⟩) (c4 : PySem.W.codeIn K cd4 "_law_pick" = true) (k4 : PySem.W.keepIn K (.ref f4) = true)
    (a5 : PySem.W.nsIn K mainGlobals "_law_table" = some (some (.ref f5))) (l5 : K.lookup f5 = some ⟨oc5, od5, .func (PySem.W.fnOf "_law_table" "_law_table" (defArgs st__law_table) (defBody st__law_table) (defScope st__law_table) .none kV5 dc5 pm5 an5 cd5 ct5), sl5⟩) (c5 : PySem.W.codeIn K cd5 "_law_table" = true) (k5 : PySem.W.keepIn K (.ref f5) = true)
    (a6 : PySem.W.nsIn K mainGlobals "is_integer" = some (some (.ref f6))) (l6 : K.lookup f6 = some ⟨oc6, od6, .func (PySem.W.fnOf "is_integer" "is_integer" (defArgs st_is_integer) (defBody st_is_integer) (defScope st_is_integer) .none kV6 dc6 pm6 an6 cd6 ct6), sl6⟩) (c6 : PySem.W.codeIn K cd6 "is_integer" = true) (k6 : PySem.W.keepIn K (.ref f6) = true)
    (a7 : PySem.W.nsIn K mainGlobals "is_step" = some (some (.ref f7))) (l7 : K.lookup f7 = some ⟨oc7, od7, .func (PySem.W.fnOf "is_step" "is_step" (defArgs st_is_step) (defBody st_is_step) (defScope st_is_step) .none kV7 dc7 pm7 an7 cd7 ct7), sl7⟩) (c7 : PySem.W.codeIn K cd7 "is_step" = true) (k7 : PySem.W.keepIn K (.ref f7) = true)
    (a8 : PySem.W.nsIn K mainGlobals "check_table" = some (some (.ref f8))) (l8 : K.lookup f8 = some ⟨oc8, od8, .func (PySem.W.fnOf "check_table" "check_table" (defArgs st_check_table) (defBody st_check_table) (defScope st_check_table) .none kV8 dc8 pm8 an8 cd8 ct8), sl8⟩) (c8 : PySem.W.codeIn K cd8 "check_table" = true) (k8 : PySem.W.keepIn K (.ref f8) = true)
    (a9 : PySem.W.nsIn K mainGlobals "_law_alike" = some (some (.ref f9))) (l9 : K.lookup f9 = some ⟨oc9, od9, .func (PySem.W.fnOf "_law_alike" "_law_alike" (defArgs st__law_alike) (defBody st__law_alike) (defScope st__law_alike) .none kV9 dc9 pm9 an9 cd9 ct9), sl9⟩) (c9 : PySem.W.codeIn K cd9 "_law_alike" = true) (k9 : PySem.W.keepIn K (.ref f9) = true)
    (a10 : PySem.W.nsIn K mainGlobals "all_words" = some (some (.ref f10))) (l10 : K.lookup f10 = some ⟨oc10, od10, .func (PySem.W.fnOf "all_words" "all_words" (defArgs st_all_words) (defBody st_all_words) (defScope st_all_words) .none kV10 dc10 pm10 an10 cd10 ct10), sl10⟩) (c10 : PySem.W.codeIn K cd10 "all_words" = true) (k10 : PySem.W.keepIn K (.ref f10) = true)
    (a11 : PySem.W.nsIn K mainGlobals "take_row" = some (some (.ref f11))) (l11 : K.lookup f11 = some ⟨oc11, od11, .func (PySem.W.fnOf "take_row" "take_row" (defArgs st_take_row) (defBody st_take_row) (defScope st_take_row) .none kV11 dc11 pm11 an11 cd11 ct11), sl11⟩) (c11 : PySem.W.codeIn K cd11 "take_row" = true) (k11 : PySem.W.keepIn K (.ref f11) = true)
    (a12 : PySem.W.nsIn K mainGlobals "read" = some (some (.ref f12))) (l12 : K.lookup f12 = some ⟨oc12, od12, .func (PySem.W.fnOf "read" "read" (defArgs st_read) (defBody st_read) (defScope st_read) .none kV12 dc12 pm12 an12 cd12 ct12), sl12⟩) (c12 : PySem.W.codeIn K cd12 "read" = true) (k12 : PySem.W.keepIn K (.ref f12) = true)
    (a13 : PySem.W.nsIn K mainGlobals "law" = some (some (.ref f13))) (l13 : K.lookup f13 = some ⟨oc13, od13, .func (PySem.W.fnOf "law" "law" (defArgs st_law) (defBody st_law) (defScope st_law) .none kV13 dc13 pm13 an13 cd13 ct13), sl13⟩) (c13 : PySem.W.codeIn K cd13 "law" = true) (k13 : PySem.W.keepIn K (.ref f13) = true)
    (aC : PySem.W.nsIn K mainGlobals "Machine" = some (some (.ref C))) (aI : PySem.W.findIn K (.ref C) "__init__" = some (some (.ref fI))) (iI : PySem.W.isFn K (.ref fI) = true) (lI : K.lookup fI = some ⟨ocI, odI, .func (PySem.W.fnOf "__init__" "Machine.__init__" (defArgs st_init) (defBody st_init) (defScope st_init) .none kVI dcI pmI anI cdI ctI), slI⟩) (cI : PySem.W.codeIn K cdI "Machine.__init__" = true) (kI : PySem.W.keepIn K (.ref fI) = true)
    (pg : PySem.W.plainGet K C Str.empty = true) (hd : PySem.W.hasDictIn K C = true) (po : PySem.W.plainOver K C = true) (sa : PySem.W.findIn K (.ref C) "__setattr__" = some (some (.builtin "object.__setattr__"))) (mk : PySem.W.makesIn K C = true) (kc : PySem.W.keepIn K (.ref C) = true) (nR : PySem.W.findIn K (.ref C) "rows" = some none)
    (pa_table : PySem.W.findIn K (.ref C) "table" = some (some (.ref pp_table))) (pb_table : PySem.W.specialIn K (.ref pp_table) "__get__" = some (some (.builtin "property.__get__"))) (pc_table : PySem.W.takesIn K (.ref pp_table) = some true) (pd_table : PySem.W.recIn K pp_table "property" = some (.ref pg_table :: pr_table)) (pl_table : K.lookup pg_table = some ⟨oc_table, od_table, .func (PySem.W.fnOf "table" "Machine.table" (defArgs st_p_table) (defBody st_p_table) (defScope st_p_table) .none kV_table dc_table pm_table an_table cd_table ct_table), sl_table⟩) (pe_table : PySem.W.codeIn K cd_table "Machine.table" = true) (pk_table : PySem.W.keepIn K (.ref pg_table) = true)
    (qa_eq : PySem.W.findIn K (.ref C) "__eq__" = some (some (.ref qf_eq))) (qi_eq : PySem.W.isFn K (.ref qf_eq) = true) (ql_eq : K.lookup qf_eq = some ⟨qoc_eq, qod_eq, .func (PySem.W.fnOf "__eq__" "Machine.__eq__" (defArgs st_q_eq) (defBody st_q_eq) (defScope st_q_eq) .none qkV_eq qdc_eq qpm_eq qan_eq qcd_eq qct_eq), qsl_eq⟩) (qc_eq : PySem.W.codeIn K qcd_eq "Machine.__eq__" = true) (qk_eq : PySem.W.keepIn K (.ref qf_eq) = true)
    (qn : PySem.W.notFirst K C (.type "tuple") = true) (im0 : PySem.W.typeIn K (.ref C) = some (.type "type")) (im1 : PySem.W.subIn K (.type "tuple") (.ref C) = some false) (im2 : PySem.W.subIn K (.type "list") (.ref C) = some false) (im3 : PySem.W.subIn K (.type "NoneType") (.ref C) = some false) (im4 : PySem.W.findIn K (.ref C) "__class__" = some (some (.builtin "object.__class__"))) (im5 : PySem.W.specialIn K (.builtin "object.__class__") "__get__" = some (some (.builtin "getset_descriptor.__get__"))) (im6 : PySem.W.takesIn K (.builtin "object.__class__") = some true) (im7 : PySem.W.mroIn K C (.type "object") = some true)
    (nb : PySem.W.nsIn K cStatics sharingNotToldKey = some none)
    (z_len : PySem.W.nsIn K mainGlobals "len" = some none)
    (z_range : PySem.W.nsIn K mainGlobals "range" = some none)
    (z_int : PySem.W.nsIn K mainGlobals "int" = some none)
    (z_bool : PySem.W.nsIn K mainGlobals "bool" = some none)
    (z_str : PySem.W.nsIn K mainGlobals "str" = some none)
    (z_tuple : PySem.W.nsIn K mainGlobals "tuple" = some none)
    (z_list : PySem.W.nsIn K mainGlobals "list" = some none)
    (z_dict : PySem.W.nsIn K mainGlobals "dict" = some none)
    (z_set : PySem.W.nsIn K mainGlobals "set" = some none)
    (z_max : PySem.W.nsIn K mainGlobals "max" = some none)
    (z_min : PySem.W.nsIn K mainGlobals "min" = some none)
    (z_all : PySem.W.nsIn K mainGlobals "all" = some none)
    (z_any : PySem.W.nsIn K mainGlobals "any" = some none)
    (z_isinstance : PySem.W.nsIn K mainGlobals "isinstance" = some none)
    (z_enumerate : PySem.W.nsIn K mainGlobals "enumerate" = some none)
    (z_sorted : PySem.W.nsIn K mainGlobals "sorted" = some none)
    (z_zip : PySem.W.nsIn K mainGlobals "zip" = some none)
    (z_sum : PySem.W.nsIn K mainGlobals "sum" = some none)
    (g_LACKS : PySem.W.nsIn K mainGlobals "LACKS" = some (some (.str "-" t_LACKS)))
    (g_HEAD : PySem.W.nsIn K mainGlobals "HEAD" = some (some (.str "stand" t_HEAD)))
    (g_MOST_WRITTEN : PySem.W.nsIn K mainGlobals "MOST_WRITTEN" = some (some (.int 3 t_MOST_WRITTEN)))
    (g_MOST_STANDS : PySem.W.nsIn K mainGlobals "MOST_STANDS" = some (some (.int 6 t_MOST_STANDS)))
    (g_LETTERS : PySem.W.nsIn K mainGlobals "LETTERS" = some (some (.ref p_LETTERS))) (h_LETTERS : K.lookup p_LETTERS = some ⟨.type "tuple", none, .seq #[.int 2 t_LETTERS_0, .int 3 t_LETTERS_1] n_LETTERS, #[]⟩) :
    ∃ fd : FuncData, (∀ (s : Shared) (v : Value), BindsTo s fd ⟨[v], []⟩ [("_law_script", v)]) ∧ ∀ base : Heap, K.In base → base.Ns mainGlobals mg → FnOk l.prog w K mg base CX0 11 fa fd ["_law_script"] (spLaw K) := by
  have e := hfa.symm.trans (PySem.W.mg_of X G a13)
  cases e
  have B : Blt mg := ⟨PySem.W.mg_none_of X G z_len, PySem.W.mg_none_of X G z_range, PySem.W.mg_none_of X G z_int, PySem.W.mg_none_of X G z_bool, PySem.W.mg_none_of X G z_str, PySem.W.mg_none_of X G z_tuple, PySem.W.mg_none_of X G z_list, PySem.W.mg_none_of X G z_dict, PySem.W.mg_none_of X G z_set, PySem.W.mg_none_of X G z_max, PySem.W.mg_none_of X G z_min, PySem.W.mg_none_of X G z_all, PySem.W.mg_none_of X G z_any, PySem.W.mg_none_of X G z_isinstance, PySem.W.mg_none_of X G z_enumerate, PySem.W.mg_none_of X G z_sorted, PySem.W.mg_none_of X G z_zip, PySem.W.mg_none_of X G z_sum⟩
  have M : Mach K mg C := ⟨⟨pg, hd, po, sa⟩, nR, PySem.W.mg_of X G aC⟩
  have c_LACKS : Con1 K mg "LACKS" (.str "-") := ⟨.str "-", _, PySem.W.mg_of X G g_LACKS, ⟨_, rfl⟩, fun E H => rfl⟩
  have c_HEAD : Con1 K mg "HEAD" (.str "stand") := ⟨.str "stand", _, PySem.W.mg_of X G g_HEAD, ⟨_, rfl⟩, fun E H => rfl⟩
  have c_MOST_WRITTEN : Con1 K mg "MOST_WRITTEN" (.int 3) := ⟨.int 3, _, PySem.W.mg_of X G g_MOST_WRITTEN, ⟨_, rfl⟩, fun E H => rfl⟩
  have c_MOST_STANDS : Con1 K mg "MOST_STANDS" (.int 6) := ⟨.int 6, _, PySem.W.mg_of X G g_MOST_STANDS, ⟨_, rfl⟩, fun E H => rfl⟩
  have c_LETTERS : Con1 K mg "LETTERS" (.tup [(.int 2), (.int 3)]) := ⟨.ref p_LETTERS, _, PySem.W.mg_of X G g_LETTERS, rfl, fun E H => ⟨p_LETTERS, [.int 2, .int 3], rfl, .inr ⟨_, _, _, h_LETTERS, rfl, rfl, (by show 2 ≤ sizeLine; decide), (.cons ⟨_, rfl⟩ (.cons ⟨_, rfl⟩ .nil))⟩, ⟨_, _, rfl, rfl, ⟨_, _, rfl, rfl, rfl⟩⟩⟩⟩
  have F0 := fun_mk (st := st__law_mix) l0 c0 k0
  have b0 := F0.binds (ps := ["_law_script", "_law_seed"]) fun _ _ _ _ _ _ us hl => match us, hl with | [_, _], _ => rfl
  have F1 := fun_mk (st := st_step_text) l1 c1 k1
  have b1 := F1.binds (ps := ["step"]) fun _ _ _ _ _ _ us hl => match us, hl with | [_], _ => rfl
  have d_step_text : Def1 K mg "step_text" st_step_text ["step"] := ⟨_, _, F1, PySem.W.mg_of X G a1, b1⟩
  have F2 := fun_mk (st := st_write) l2 c2 k2
  have b2 := F2.binds (ps := ["machine"]) fun _ _ _ _ _ _ us hl => match us, hl with | [_], _ => rfl
  have d_write : Def1 K mg "write" st_write ["machine"] := ⟨_, _, F2, PySem.W.mg_of X G a2, b2⟩
  have F3 := fun_mk (st := st__law_next) l3 c3 k3
  have b3 := F3.binds (ps := ["_law_h", "_law_cap"]) fun _ _ _ _ _ _ us hl => match us, hl with | [_, _], _ => rfl
  have d__law_next : Def1 K mg "_law_next" st__law_next ["_law_h", "_law_cap"] := ⟨_, _, F3, PySem.W.mg_of X G a3, b3⟩
  have F4 := fun_mk (st := st__law_pick) l4 c4 k4
  have b4 := F4.binds (ps := ["_law_h", "_law_things"]) fun _ _ _ _ _ _ us hl => match us, hl with | [_, _], _ => rfl
  have d__law_pick : Def1 K mg "_law_pick" st__law_pick ["_law_h", "_law_things"] := ⟨_, _, F4, PySem.W.mg_of X G a4, b4⟩
  have F5 := fun_mk (st := st__law_table) l5 c5 k5
  have b5 := F5.binds (ps := ["_law_h"]) fun _ _ _ _ _ _ us hl => match us, hl with | [_], _ => rfl
  have d__law_table : Def1 K mg "_law_table" st__law_table ["_law_h"] := ⟨_, _, F5, PySem.W.mg_of X G a5, b5⟩
  have F6 := fun_mk (st := st_is_integer) l6 c6 k6
  have b6 := F6.binds (ps := ["thing", "low", "high"]) fun _ _ _ _ _ _ us hl => match us, hl with | [_, _, _], _ => rfl
  have d_is_integer : Def1 K mg "is_integer" st_is_integer ["thing", "low", "high"] := ⟨_, _, F6, PySem.W.mg_of X G a6, b6⟩
  have F7 := fun_mk (st := st_is_step) l7 c7 k7
  have b7 := F7.binds (ps := ["thing", "stands"]) fun _ _ _ _ _ _ us hl => match us, hl with | [_, _], _ => rfl
  have d_is_step : Def1 K mg "is_step" st_is_step ["thing", "stands"] := ⟨_, _, F7, PySem.W.mg_of X G a7, b7⟩
  have F8 := fun_mk (st := st_check_table) l8 c8 k8
  have b8 := F8.binds (ps := ["thing"]) fun _ _ _ _ _ _ us hl => match us, hl with | [_], _ => rfl
  have d_check_table : Def1 K mg "check_table" st_check_table ["thing"] := ⟨_, _, F8, PySem.W.mg_of X G a8, b8⟩
  have F9 := fun_mk (st := st__law_alike) l9 c9 k9
  have b9 := F9.binds (ps := ["_law_found", "_law_due"]) fun _ _ _ _ _ _ us hl => match us, hl with | [_, _], _ => rfl
  have d__law_alike : Def1 K mg "_law_alike" st__law_alike ["_law_found", "_law_due"] := ⟨_, _, F9, PySem.W.mg_of X G a9, b9⟩
  have F10 := fun_mk (st := st_all_words) l10 c10 k10
  have b10 := F10.binds (ps := ["stands"]) fun _ _ _ _ _ _ us hl => match us, hl with | [_], _ => rfl
  have d_all_words : Def1 K mg "all_words" st_all_words ["stands"] := ⟨_, _, F10, PySem.W.mg_of X G a10, b10⟩
  have F11 := fun_mk (st := st_take_row) l11 c11 k11
  have b11 := F11.binds (ps := ["words", "known", "letters", "at"]) fun _ _ _ _ _ _ us hl => match us, hl with | [_, _, _, _], _ => rfl
  have d_take_row : Def1 K mg "take_row" st_take_row ["words", "known", "letters", "at"] := ⟨_, _, F11, PySem.W.mg_of X G a11, b11⟩
  have F12 := fun_mk (st := st_read) l12 c12 k12
  have b12 := F12.binds (ps := ["text"]) fun _ _ _ _ _ _ us hl => match us, hl with | [_], _ => rfl
  have d_read : Def1 K mg "read" st_read ["text"] := ⟨_, _, F12, PySem.W.mg_of X G a12, b12⟩
  have F13 := fun_mk (st := st_law) l13 c13 k13
  have IM : IsM K C := ⟨M.cl, kit_own, kit_tyC hd im0 im1, kit_tyC hd im0 im2, kit_tyC hd im0 im3, im4, im5, im6, im7⟩
  have FQ_eq := fun_mk (st := st_q_eq) ql_eq qc_eq qk_eq
  have bQ_eq := FQ_eq.binds (ps := ["self", "other"]) fun _ _ _ _ _ _ us hl => match us, hl with | [_, _], _ => rfl
  have FI := fun_mk (st := st_init) lI cI kI
  have bI := FI.binds (ps := ["self", "table"]) fun _ _ _ _ _ _ us hl => match us, hl with | [_, _], _ => rfl
  refine ⟨PySem.W.fnOf "law" "law" (defArgs st_law) (defBody st_law) (defScope st_law) .none kV13 dc13 pm13 an13 cd13 ct13, fun s v => .of_eq rfl, fun base _ _ => ?_⟩
  have Q_eq : MethEq l.prog w K mg base C 1 (m_q_eq C) := ⟨_, _, _, rfl, ok_q_eq (P := l.prog) (w := w) (base := base) B M IM FQ_eq, qa_eq, qi_eq, bQ_eq, qn⟩
  have FP_table := fun_mk (st := st_p_table) pl_table pe_table pk_table
  have bP_table := FP_table.binds (ps := ["self"]) fun _ _ _ _ _ _ us hl => match us, hl with | [_], _ => rfl
  have P_table := ok_p_table (P := l.prog) (w := w) (base := base) B M ⟨pa_table, pb_table, pc_table, _, pd_table⟩ FP_table bP_table
  have G_step_text := ok_step_text (P := l.prog) (w := w) (base := base) B M c_LACKS d_step_text
  have G_write := ok_write (P := l.prog) (w := w) (base := base) B M G_step_text c_HEAD d_write
  have G__law_next := ok_next (P := l.prog) (w := w) (base := base) B d__law_next
  have G__law_pick := ok__law_pick (P := l.prog) (w := w) (base := base) B M G__law_next d__law_pick
  have G__law_table := ok__law_table (P := l.prog) (w := w) (base := base) B M G__law_next G__law_pick d__law_table
  have G_is_integer := ok_is_integer (P := l.prog) (w := w) (base := base) B M d_is_integer
  have G_is_step := ok_is_step (P := l.prog) (w := w) (base := base) B M G_is_integer c_MOST_WRITTEN d_is_step
  have G_check_table := ok_check_table (P := l.prog) (w := w) (base := base) B M G_is_step c_MOST_STANDS c_LETTERS d_check_table
  have G_make : MkOk l.prog w K mg base C 4 m_check_table := ⟨_, _, ⟨mk, aI, iI, kc⟩, ok_init M G_check_table FI, bI⟩
  have G__law_alike := ok__law_alike (P := l.prog) (w := w) (base := base) B M d__law_alike 9
  have G_all_words := ok_all_words (P := l.prog) (w := w) (base := base) B M c_LACKS c_MOST_WRITTEN d_all_words
  have G_take_row := ok_take_row (P := l.prog) (w := w) (base := base) B M c_HEAD c_LETTERS d_take_row
  have G_read := ok_read (P := l.prog) (w := w) (base := base) B M G_all_words G_take_row G_check_table G_make c_MOST_STANDS d_read
  exact ok_law B M G__law_table G_check_table G_write G__law_alike G__law_next G_read P_table G_make nb Q_eq (good C) F0 (PySem.W.mg_of X G a0) b0 F13
theorem walk {l : PySem.W.OpenLaw} {q : Program} {loose : List Str} {XP : (Str → Option Value) → Heap → Prop} {YP : World → Heap → Prop} {d : DefRec} {K : Params → PySem.W.Frag} (hn : l.most = some 63) (hdf : d.params.defaults = [])
    (hY : ∀ (w : World) (h : Heap), YP w h → (K w.params).In h)
    (F : ∀ (w : World) (mg : Str → Option Value) (fa : Addr) (h : Heap), (K w.params).In h → h.Ns mainGlobals mg → mg d.name = some (.ref fa) →
      ∃ fd : FuncData, (∀ (s : Shared) (u : Value), BindsTo s fd ⟨[u], []⟩ [("_law_script", u)]) ∧ ∀ base : Heap, (K w.params).In base → base.Ns mainGlobals mg → FnOk l.prog w (K w.params) mg base CX0 11 fa fd ["_law_script"] (spLaw (K w.params))) :
    PySem.W.WalkO q loose XP YP l.row.toRowW d [] (fun f vs => PySem.call f vs) :=
  L2.walk_of (n := 63) (k := 11) (x := "_law_script") (CX := fun _ => CX0) (sp := fun w => spLaw (K w.params)) hn (by decide) hdf ⟨rfl, by decide, by decide⟩ hY F (fun _ _ a ns hl _ hS => ⟨a, ns, rfl, hS, hl, fun _ => rfl⟩) fun _ _ _ _ _ z => z
end G

set_option Elab.async false
set_option linter.all false
set_option maxRecDepth 100000
set_option maxHeartbeats 4000000
namespace G
open PySem L2 DL
/-! ### tables -/
abbrev Step := Option (Nat × Nat)
abbrev Tab := List (List Step)
def eStep : Step → D
  | none => .non
  | some (g, s) => .tup [.int g, .int s]
def eRow (r : List Step) : D := .tup (r.map eStep)
def eTab (t : Tab) : D := .tup (t.map eRow)
/-- a row of letters, of stands -/
def eNs (r : List Nat) : D := .tup (r.map fun n : Nat => .int n)
structure TabOk (t : Tab) (k : Nat) : Prop where
  n1 : 1 ≤ t.length
  n6 : t.length ≤ 6
  kk : k = 2 ∨ k = 3
  row : ∀ r ∈ t, r.length = k
  step : ∀ r ∈ t, ∀ g s, some (g, s) ∈ r → g < t.length ∧ s ≤ 3
theorem small {n : Nat} (h : n ≤ 16777216) : n ≤ sizeLine := by rw [sizeLine_eq]; exact h
theorem small' {n : Nat} (h : n < 16777216) : n < sizeLine := by rw [sizeLine_eq]; exact h


theorem ret_pick {ds : List D} (h0 : ds ≠ []) (h1 : ds.length < 1073741824) : Rets m__law_pick [.src, .im (.lst ds)] (· ∈ ds) := fun q hq => by
  rw [e__law_pick]
  refine ⟨rfl, ?_⟩
  simp [r__law_pick]
  refine next_ ?_ (by omega) fun r hr => ?_
  · have := List.length_pos_iff.mpr h0; omega
  · have hr' : r < ds.length := by omega
    simp [atI_nat (List.getElem?_eq_getElem hr')]
    exact hq _ (List.getElem_mem hr')


theorem eRow_len (r : List Step) : (r.map eStep).length = r.length := List.length_map ..
theorem eStep_some {g s : Nat} : eStep (some (g, s)) = .tup [.int g, .int s] := rfl
def StepOk (n : Nat) (x : Step) : Prop := ∀ g s, x = some (g, s) → g < n ∧ s ≤ 3


theorem ret_table : Rets m__law_table [.src] (fun d => ∃ t k, TabOk t k ∧ d = eTab t) := fun q hq => by
  rw [e__law_table]
  refine ⟨rfl, ?_⟩
  simp [r__law_table]
  refine next_ (cap := 6) (by decide) (by decide) fun r1 h1 => ?_
  rw [x_rAddI]
  refine next_ (cap := 2) (by decide) (by decide) fun r2 h2 => ?_
  rw [x_rAddI]
  refine ⟨small (by decide), ?_⟩
  refine ret_pick (by simp) (by simp) _ fun cap hcap => ?_
  obtain ⟨cap, rfl, hc1, hc4⟩ : ∃ c : Nat, cap = .int c ∧ 1 ≤ c ∧ c ≤ 4 := by
    simp at hcap
    rcases hcap with rfl | rfl | rfl
    · exact ⟨1, rfl, by decide, by decide⟩
    · exact ⟨2, rfl, by decide, by decide⟩
    · exact ⟨4, rfl, by decide, by decide⟩
  refine ⟨small (by decide), ?_⟩
  refine ret_pick (by simp) (by simp) _ fun lacks hlacks => ?_
  obtain ⟨lacks, rfl⟩ : ∃ c : Nat, lacks = .int c := by
    simp at hlacks
    rcases hlacks with rfl | rfl | rfl
    · exact ⟨0, rfl⟩
    · exact ⟨1, rfl⟩
    · exact ⟨3, rfl⟩
  refine next_ (cap := 3) (by decide) (by decide) fun near hnear => ?_
  obtain ⟨n, hn⟩ : ∃ n : Nat, (1 : Int) + r1 = n := ⟨r1 + 1, by omega⟩
  obtain ⟨k, hk⟩ : ∃ k : Nat, (2 : Int) + r2 = k := ⟨r2 + 2, by omega⟩
  rw [hn, hk]
  simp
  refine ⟨by omega, ?_⟩
  refine fordo_inv (fun ds ρ => ∃ (i m : Nat) (t : Tab) (x7 x8 x9 x10 x11 : Option Sl), ds = nums i m ∧ i + m = n ∧ t.length = i ∧ (∀ r ∈ t, r.length = k ∧ ∀ x ∈ r, StepOk n x) ∧
    ρ = [some Sl.src, some (Sl.im (.int n)), some (Sl.im (.int k)), some (Sl.im (.int cap)), some (Sl.im (.int lacks)), some (Sl.im (.int near)), some (Sl.ml (t.map eRow)), x7, x8, x9, x10, x11]) ?_ ?_ _ _ ⟨0, n, [], none, none, none, none, none, rfl, by omega, rfl, by simp, rfl⟩
  · rintro ρ ⟨i, m, t, x7, x8, x9, x10, x11, hd, him, ht, hr, rfl⟩
    simp
    have hm : m = 0 := by have := congrArg List.length hd; simp at this; omega
    refine hq _ ⟨t, k, ⟨by omega, by omega, by omega, fun r h => (hr r h).1, fun r h g s hx => ?_⟩, rfl⟩
    have := (hr r h).2 _ hx g s rfl
    omega
  · rintro d ds ρ ⟨i, m, t, x7, x8, x9, x10, x11, hd, him, ht, hr, rfl⟩
    obtain ⟨m, rfl⟩ : ∃ m', m = m' + 1 := by
      cases m with
      | zero => cases hd
      | succ m => exact ⟨m, rfl⟩
    rw [nums_succ] at hd
    injection hd with hd1 hd2
    subst hd1 hd2
    refine ⟨_, rfl, fun nx hnx => ?_⟩
    simp
    refine ⟨by omega, ?_⟩
    refine fordo_inv (fun ds ρ => ∃ (j l : Nat) (r : List Step) (x9 x10 x11 : Option Sl), ds = nums j l ∧ j + l = k ∧ r.length = j ∧ (∀ x ∈ r, StepOk n x) ∧
      ρ = [some Sl.src, some (Sl.im (.int n)), some (Sl.im (.int k)), some (Sl.im (.int cap)), some (Sl.im (.int lacks)), some (Sl.im (.int near)), some (Sl.ml (t.map eRow)), some (Sl.im (.int i)), some (Sl.ml (r.map eStep)), x9, x10, x11]) ?_ ?_ _ _ ⟨0, k, [], _, _, _, rfl, by omega, rfl, by simp, rfl⟩
    · rintro ρ ⟨j, l, r, x9, x10, x11, hd, hjl, hl, hr', rfl⟩
      have hm : l = 0 := by have := congrArg List.length hd; simp at this; omega
      simp
      refine ⟨small' (by omega), hnx _ ⟨i + 1, m, t ++ [r], _, _, _, _, _, by congr 1, by omega, by simp [ht], ?_, by rw [List.map_append]; rfl⟩⟩
      intro r' h'
      rcases List.mem_append.mp h' with h' | h'
      · exact hr r' h'
      · rw [List.mem_singleton.mp h']
        exact ⟨by omega, hr'⟩
    · rintro d ds ρ ⟨j, l, r, x9, x10, x11, hd, hjl, hl, hr', rfl⟩
      obtain ⟨l, rfl⟩ : ∃ m', l = m' + 1 := by
        cases l with
        | zero => cases hd
        | succ m => exact ⟨m, rfl⟩
      rw [nums_succ] at hd
      injection hd with hd1 hd2
      subst hd1 hd2
      refine ⟨_, rfl, fun nx' hnx' => ?_⟩
      simp
      refine next_ (by omega) (by omega) fun goal hgoal => ?_
      refine next_ (by omega) (by omega) fun sign hsign => ?_
      have key : ∀ (g s : Int), 0 ≤ g → g < n → 0 ≤ s → s ≤ 3 → (m_next [Sl.src, Sl.im (D.int 12)] fun x => DL.rLt x (D.int ↑lacks) fun d => (match d with
          | D.bl k_1 => if k_1 = true then r.length < sizeLine ∧ nx' [some Sl.src, some (Sl.im (D.int ↑n)), some (Sl.im (D.int ↑k)), some (Sl.im (D.int ↑cap)), some (Sl.im (D.int ↑lacks)), some (Sl.im (D.int ↑near)), some (Sl.ml (List.map eRow t)), some (Sl.im (D.int ↑i)), some (Sl.ml (List.map eStep r ++ [D.non])), some (Sl.im (D.int ↑j)), some (Sl.im (D.int g)), some (Sl.im (D.int s))]
            else 2 ≤ sizeLine ∧ r.length < sizeLine ∧ nx' [some Sl.src, some (Sl.im (D.int ↑n)), some (Sl.im (D.int ↑k)), some (Sl.im (D.int ↑cap)), some (Sl.im (D.int ↑lacks)), some (Sl.im (D.int ↑near)), some (Sl.ml (List.map eRow t)), some (Sl.im (D.int ↑i)), some (Sl.ml (List.map eStep r ++ [D.tup [D.int g, D.int s]])), some (Sl.im (D.int ↑j)), some (Sl.im (D.int g)), some (Sl.im (D.int s))]
          | x => False)) := by
        intro g s hg0 hg hs0 hs
        refine next_ (cap := 12) (by decide) (by decide) fun c hc => ?_
        have put : ∀ x : Step, StepOk n x → ∀ y9 y10 y11, nx' [some Sl.src, some (Sl.im (D.int ↑n)), some (Sl.im (D.int ↑k)), some (Sl.im (D.int ↑cap)), some (Sl.im (D.int ↑lacks)), some (Sl.im (D.int ↑near)), some (Sl.ml (List.map eRow t)), some (Sl.im (D.int ↑i)), some (Sl.ml (List.map eStep r ++ [eStep x])), y9, y10, y11] := by
          intro x hx y9 y10 y11
          refine hnx' _ ⟨j + 1, l, r ++ [x], _, _, _, rfl, by omega, by simp [hl], fun y hy => ?_, by rw [List.map_append]; rfl⟩
          rcases List.mem_append.mp hy with hy | hy
          · exact hr' y hy
          · rw [List.mem_singleton.mp hy]; exact hx
        rw [x_rLt]
        simp only []
        split
        · exact ⟨small' (by omega), put none (fun g s z => by cases z) _ _ _⟩
        · refine ⟨small (by decide), small' (by omega), ?_⟩
          have := put (some (g.toNat, s.toNat)) (fun g' s' z => by cases z; omega) (some (Sl.im (D.int ↑j))) (some (Sl.im (D.int g))) (some (Sl.im (D.int s)))
          rwa [eStep_some, Int.toNat_of_nonneg hg0, Int.toNat_of_nonneg hs0] at this
      have hnn : (0 : Int) < n := by omega
      have m1 := Int.emod_nonneg ((i : Int) + 1) (show (n : Int) ≠ 0 by omega)
      have m2 := Int.emod_lt_of_pos ((i : Int) + 1) hnn
      have m3 := Int.emod_nonneg ((i : Int) + j) (show (n : Int) ≠ 0 by omega)
      have m4 := Int.emod_lt_of_pos ((i : Int) + j) hnn
      repeat' (first | split | (apply key <;> omega) | refine ⟨by omega, ?_⟩)


/-! ### reading a table -/
def rowAt (t : Tab) (s : Nat) : List Step := t.getD s []
def stepAt (t : Tab) (s a : Nat) : Step := (rowAt t s).getD a none
theorem at_map {α : Type} {f : α → D} {xs : List α} {i : Nat} {d : α} (h : i < xs.length) : atI (xs.map f) (i : Int) = some (f (xs.getD i d)) := by
  have : (xs.map f)[i]? = some (f (xs.getD i d)) := by
    rw [List.getElem?_map, List.getElem?_eq_getElem h, List.getD_eq_getElem?_getD, List.getElem?_eq_getElem h]; rfl
  exact atI_nat this
theorem at_row {t : Tab} {s : Nat} (h : s < t.length) : atI (t.map eRow) (s : Int) = some (eRow (rowAt t s)) := at_map h
theorem at_row0 {t : Tab} (h : 0 < t.length) : atI (t.map eRow) 0 = some (eRow (rowAt t 0)) := at_map (i := 0) h
theorem at_step {t : Tab} {s a : Nat} (h : a < (rowAt t s).length) : atI ((rowAt t s).map eStep) (a : Int) = some (eStep (stepAt t s a)) := at_map h
theorem rowAt_mem {t : Tab} {s : Nat} (h : s < t.length) : rowAt t s ∈ t := by
  unfold rowAt
  rw [List.getD_eq_getElem?_getD, List.getElem?_eq_getElem h]
  exact List.getElem_mem h
theorem TabOk.rl {t : Tab} {k s : Nat} (o : TabOk t k) (h : s < t.length) : (rowAt t s).length = k := o.row _ (rowAt_mem h)
theorem stepAt_mem {t : Tab} {s a : Nat} (h : a < (rowAt t s).length) : stepAt t s a ∈ rowAt t s := by
  unfold stepAt
  rw [List.getD_eq_getElem?_getD, List.getElem?_eq_getElem h]
  exact List.getElem_mem h
theorem TabOk.to {t : Tab} {k s a g w : Nat} (o : TabOk t k) (hs : s < t.length) (ha : a < k) (h : stepAt t s a = some (g, w)) : g < t.length ∧ w ≤ 3 :=
  o.step _ (rowAt_mem hs) g w (h ▸ stepAt_mem (by rw [o.rl hs]; exact ha))
theorem TabOk.pos {t : Tab} {k : Nat} (o : TabOk t k) : 0 < t.length := o.n1
/-! ### is_integer, is_step, check_table -/
theorem isi_int : isaS "int" "int" = true := rfl
@[simp] theorem isi1 : isaS "int" "bool" = false := rfl
@[simp] theorem isi2 : isaS "int" "int" = true := rfl
@[simp] theorem isi3 : isaS "tuple" "tuple" = true := rfl
@[simp] theorem isi4 : isaS "bool" "int" = true := rfl
@[simp] theorem isi5 : isaS "bool" "bool" = true := rfl
@[simp] theorem isi6 : isaS "NoneType" "int" = false := rfl
@[simp] theorem isi7 : isaS "NoneType" "tuple" = false := rfl
@[simp] theorem isi8 : isaS "NoneType" "list" = false := rfl
@[simp] theorem isi9 : isaS "NoneType" "str" = false := rfl
@[simp] theorem isi10 : isaS "NoneType" "bool" = false := rfl
@[simp] theorem isi11 : isaS "tuple" "list" = false := rfl
@[simp] theorem isi12 : isaS "tuple" "str" = false := rfl
@[simp] theorem isi13 : isaS "tuple" "int" = false := rfl
@[simp] theorem isi14 : isaS "tuple" "bool" = false := rfl
@[simp] theorem isi15 : isaS "int" "tuple" = false := rfl
@[simp] theorem isi16 : isaS "int" "list" = false := rfl
@[simp] theorem isi17 : isaS "int" "str" = false := rfl
@[simp] theorem isi18 : isaS "bool" "tuple" = false := rfl
@[simp] theorem isi19 : isaS "bool" "list" = false := rfl
@[simp] theorem isi20 : isaS "bool" "str" = false := rfl
@[simp] theorem isi21 : isaS "list" "list" = true := rfl
@[simp] theorem isi22 : isaS "list" "tuple" = false := rfl
@[simp] theorem isi23 : isaS "list" "str" = false := rfl
@[simp] theorem isi24 : isaS "list" "int" = false := rfl
@[simp] theorem isi25 : isaS "list" "bool" = false := rfl
@[simp] theorem isi26 : isaS "str" "str" = true := rfl
@[simp] theorem isi27 : isaS "str" "tuple" = false := rfl
@[simp] theorem isi28 : isaS "str" "list" = false := rfl
@[simp] theorem isi29 : isaS "str" "int" = false := rfl
@[simp] theorem isi30 : isaS "str" "bool" = false := rfl


theorem ret_is_integer {i lo hi : Int} : Ret m_is_integer [.im (.int i), .im (.int lo), .im (.int hi)] (.bl (decide (lo ≤ i ∧ i ≤ hi))) := fun q hq => by
  rw [e_is_integer]
  refine ⟨rfl, ?_⟩
  simp [r_is_integer]
  by_cases h : lo ≤ i
  · simp [h] at hq ⊢; exact hq
  · simp [h] at hq ⊢; exact hq


theorem ret_is_step {n : Nat} {x : Step} (h : StepOk n x) : Ret m_is_step [.im (eStep x), .im (.int n)] (.bl true) := fun q hq => by
  rw [e_is_step]
  refine ⟨rfl, ?_⟩
  cases x with
  | none => simp [r_is_step, eStep]; exact hq
  | some p =>
    obtain ⟨g, s⟩ := p
    obtain ⟨h1, h2⟩ := h g s rfl
    have a0 : atI [D.int (g : Int), .int (s : Int)] 0 = some (.int g) := rfl
    have a1 : atI [D.int (g : Int), .int (s : Int)] 1 = some (.int s) := rfl
    simp [r_is_step, eStep, a0, a1]
    refine ret_is_integer _ ?_
    rw [decide_eq_true (by omega)]
    simp
    refine ret_is_integer _ ?_
    rw [decide_eq_true (by omega)]
    exact hq


theorem pairs_mem {k : Int} {ds : List D} {d : D} (h : d ∈ pairs k ds) : ∃ i e, e ∈ ds ∧ d = .tup [.int i, e] := by
  induction ds generalizing k with
  | nil => cases h
  | cons x xs ih =>
    rw [pairs] at h
    rcases List.mem_cons.mp h with rfl | h
    · exact ⟨k, x, List.mem_cons_self .., rfl⟩
    · obtain ⟨i, e, h1, h2⟩ := ih h
      exact ⟨i, e, List.mem_cons_of_mem _ h1, h2⟩
theorem bools_true {α : Type} (xs : List α) : bools (xs.map fun _ => D.bl true) = some (xs.map fun _ => true) := by
  induction xs with
  | nil => rfl
  | cons x xs ih => rw [List.map_cons, List.map_cons, bools, ih]; rfl


theorem ret_check_table {t : Tab} {k : Nat} (o : TabOk t k) : Ret m_check_table [.im (eTab t)] .non := fun q hq => by
  rw [e_check_table]
  refine ⟨rfl, ?_⟩
  have h1 := o.n1
  have h6 := o.n6
  have e1 : decide ((1 : Int) ≤ (t.length : Int)) = true := decide_eq_true (by omega)
  have e6 : decide ((t.length : Int) ≤ 6) = true := decide_eq_true (by omega)
  simp only [r_check_table, x_sseq, x_sif, x_dor, x_dnot, x_dtest, x_disi, x_dvar, x_dchain, x_dcon, x_dcall, x_lcons, x_lnil]
  simp [eTab, e1, e6]
  refine fordo_inv (fun ds ρ => ∃ x1 x2 x3, (∀ d ∈ ds, ∃ i e, e ∈ t.map eRow ∧ d = .tup [.int i, e]) ∧ ρ = [some (Sl.im (D.tup (List.map eRow t))), x1, x2, x3]) ?_ ?_ _ _ ⟨none, none, none, fun d hd => pairs_mem hd, rfl⟩
  · rintro ρ ⟨x1, x2, x3, _, rfl⟩
    exact hq
  · rintro d ds ρ ⟨x1, x2, x3, hd, rfl⟩
    obtain ⟨i, e, he, rfl⟩ := hd d (List.mem_cons_self ..)
    obtain ⟨r, hr, rfl⟩ := List.mem_map.mp he
    refine ⟨_, rfl, fun nx hnx => ?_⟩
    have hl := o.row r hr
    have hl0 := o.rl o.pos
    simp [eRow, at_row0 o.pos, hl0, hl]
    have hin : isIn (D.int (k : Int)) [D.int 2, D.int 3] = true := by
      rcases o.kk with h | h <;> subst h <;> rfl
    simp [hin]
    refine lcdo_map (fun _ => .bl true) _ _ _ (fun d hd' => ?_) (small (by rcases o.kk with h | h <;> simp [hl, h])) ?_
    · obtain ⟨x, hx, rfl⟩ := List.mem_map.mp hd'
      refine ⟨_, rfl, fun q' hq' => ?_⟩
      simp
      exact ret_is_step (fun g s z => o.step r hr g s (z ▸ hx)) _ hq'
    · rw [List.nil_append, bools_true]
      simp
      exact hnx _ ⟨_, _, _, fun d hd' => hd d (List.mem_cons_of_mem _ hd'), rfl⟩


/-! ### a machine -/
def eMac (C : Addr) (t : Tab) : D := .obj C ["rows"] [eTab t]
@[simp] theorem rows_lookup {d : D} : (([("rows" : Str)]).zip [d]).lookup ("rows" : Str) = some d := rfl


/-- data that _law_alike takes, to the depth n -/
def alk : Nat → D → Prop
  | _, .non => True
  | _, .bl _ => True
  | _, .int _ => True
  | _, .str x => PyData.canLay0 (.str x) = true
  | 0, .tup _ => False
  | 0, .lst _ => False
  | n + 1, .tup xs => xs.length ≤ 16777216 ∧ ∀ x ∈ xs, alk n x
  | n + 1, .lst xs => xs.length ≤ 16777216 ∧ ∀ x ∈ xs, alk n x
  | _, .obj _ _ _ => False
  | _, .dct _ _ => False
theorem alike_items {n : Nat} {xs : List D} {x : D} (hx : x = .tup xs ∨ x = .lst xs) (hl : xs.length ≤ 16777216) (ih : ∀ y ∈ xs, Ret (m__law_alike (n + 1)) [.im y, .im y] (.bl true)) {q : D → Prop} (hq : q (.bl true)) :
    (xs.length : Int) < 4611686018427387904 ∧ lcdo (Tg.one 2) (dnot (dtest (dcallf (m__law_alike (n + 1)) (acons (dop rIx (dvar 0) (dvar 2)) (acons (dop rIx (dvar 1) (dvar 2)) anil))))) (dvar 2)
      [some (Sl.im x), some (Sl.im x), none] (nums 0 xs.length) [] fun ds => (D.lst ds).fit = true ∧ (D.lst []).fit = true ∧ q (D.bl ((D.lst ds).eqv (D.lst []))) := by
  refine ⟨by omega, ?_⟩
  refine lcdo_filter (fun _ => false) (fun d => d) _ _ _ (fun d hd => ⟨_, rfl, fun q' hq' => ?_, fun z => by cases z⟩) (by simp; exact small hl) ?_
  · obtain ⟨i, hi, rfl⟩ := nums_mem hd
    have h1 : atI xs (i : Int) = some xs[i] := atI_nat (List.getElem?_eq_getElem hi)
    rcases hx with rfl | rfl
    · simp [h1] at hq' ⊢
      refine ih _ (List.getElem_mem hi) _ ?_
      exact hq'
    · simp [h1] at hq' ⊢
      refine ih _ (List.getElem_mem hi) _ ?_
      exact hq'
  · have e : (List.filter (fun _ => false) (nums 0 xs.length)) = [] := by
      rw [List.filter_eq_nil_iff]; intro a _; exact Bool.false_ne_true
    rw [e]
    exact ⟨rfl, rfl, hq⟩
theorem ret_alike : ∀ (n : Nat) (d : D), alk n d → Ret (m__law_alike (n + 1)) [.im d, .im d] (.bl true)
  | n, .non, _ => fun q hq => by
    rw [e__law_alike]
    refine ⟨rfl, ?_⟩
    simp [r__law_alike]
    exact hq
  | n, .bl b, _ => fun q hq => by
    rw [e__law_alike]
    refine ⟨rfl, ?_⟩
    simp [r__law_alike]
    exact hq
  | n, .int b, _ => fun q hq => by
    rw [e__law_alike]
    refine ⟨rfl, ?_⟩
    simp [r__law_alike]
    exact hq
  | n, .str b, h => fun q hq => by
    rw [e__law_alike]
    refine ⟨rfl, ?_⟩
    simp [r__law_alike]
    have h' : PyData.canLay0 (.str b) = true := by cases n <;> exact h
    have e : (D.str b).eqv (D.str b) = true := SeqAt.eqv_refl (.str b) h'
    rw [if_pos e]
    exact ⟨h', hq⟩
  | n + 1, .tup xs, h => fun q hq => by
    rw [e__law_alike]
    refine ⟨rfl, ?_⟩
    simp [r__law_alike]
    have h' : xs.length ≤ 16777216 ∧ ∀ x ∈ xs, alk n x := h
    exact alike_items (.inl rfl) h'.1 (fun y hy => ret_alike n y (h'.2 y hy)) hq
  | n + 1, .lst xs, h => fun q hq => by
    rw [e__law_alike]
    refine ⟨rfl, ?_⟩
    simp [r__law_alike]
    have h' : xs.length ≤ 16777216 ∧ ∀ x ∈ xs, alk n x := h
    exact alike_items (.inr rfl) h'.1 (fun y hy => ret_alike n y (h'.2 y hy)) hq
  | 0, .tup xs, h => by unfold alk at h; exact h.elim
  | 0, .lst xs, h => by unfold alk at h; exact h.elim
  | n, .obj _ _ _, h => by cases n <;> (unfold alk at h; exact h.elim)
  | n, .dct _ _, h => by cases n <;> (unfold alk at h; exact h.elim)
theorem alk_ns {n : Nat} {r : List Nat} (h : r.length ≤ 16777216) : alk (n + 1) (eNs r) := by
  refine ⟨by simpa using h, fun x hx => ?_⟩
  obtain ⟨a, _, rfl⟩ := List.mem_map.mp hx
  cases n <;> exact trivial


end G

set_option Elab.async false
set_option linter.all false
set_option maxRecDepth 100000
set_option maxHeartbeats 4000000
namespace G
open PySem L2 DL
/-! ### orders -/
theorem asc_eq : ∀ {l m : List Int}, l.Pairwise (· < ·) → m.Pairwise (· < ·) → (∀ k, k ∈ l ↔ k ∈ m) → l = m
  | [], [], _, _, _ => rfl
  | [], y :: m, _, _, h => absurd ((h y).mpr (List.mem_cons_self ..)) (by simp)
  | x :: l, [], _, _, h => absurd ((h x).mp (List.mem_cons_self ..)) (by simp)
  | x :: l, y :: m, hl, hm, h => by
    rw [List.pairwise_cons] at hl hm
    have e : x = y := by
      rcases List.mem_cons.mp ((h x).mp (List.mem_cons_self ..)) with e | hx
      · exact e
      · rcases List.mem_cons.mp ((h y).mpr (List.mem_cons_self ..)) with e | hy
        · exact e.symm
        · have h1 := hm.1 x hx
          have h2 := hl.1 y hy
          omega
    subst e
    rw [asc_eq hl.2 hm.2 fun k => ?_]
    constructor
    · intro hk
      rcases List.mem_cons.mp ((h k).mp (List.mem_cons_of_mem _ hk)) with e | h'
      · have := hl.1 k hk; omega
      · exact h'
    · intro hk
      rcases List.mem_cons.mp ((h k).mpr (List.mem_cons_of_mem _ hk)) with e | h'
      · have := hm.1 k hk; omega
      · exact h'
theorem asc_map {l : List Nat} (h : l.Pairwise (· < ·)) : (l.map fun n : Nat => (n : Int)).Pairwise (· < ·) := by
  rw [List.pairwise_map]
  exact h.imp fun {a b} hab => by omega
theorem asc_range (n : Nat) : (List.range n).Pairwise (· < ·) := List.pairwise_lt_range
theorem asc_filter {p : Nat → Bool} (n : Nat) : ((List.range n).filter p).Pairwise (· < ·) := (asc_range n).filter _
theorem int_map (r : List Nat) : (r.map fun n : Nat => D.int n) = (r.map fun n : Nat => (n : Int)).map D.int := by rw [List.map_map]; rfl
theorem fitsN_all {n : Nat} : ∀ (xs : List D), (∀ x ∈ xs, x.fitN n = true) → D.fitsN n xs = true
  | [], _ => by unfold D.fitsN; rfl
  | x :: xs, h => by
    unfold D.fitsN
    rw [h x (List.mem_cons_self ..), fitsN_all xs fun y hy => h y (List.mem_cons_of_mem _ hy)]; rfl
theorem fit_int_n {n : Nat} {i : Int} : (D.int i).fitN n = true := by cases n <;> rfl
theorem fit_ns {n : Nat} {r : List Nat} : (eNs r).fitN (n + 1) = true := fitsN_all _ fun x hx => by
  obtain ⟨a, _, rfl⟩ := List.mem_map.mp hx
  exact fit_int_n
@[simp] theorem fit_ns8 {r : List Nat} : (eNs r).fit = true := fit_ns
theorem tle : PySem.W.TotalLe (PySem.W.dataLe false D.py) := PySem.W.sortLe_total _ _ _
theorem dataLe_i (i j : Int) : PySem.W.dataLe false D.py (.int i) (.int j) = decide (i ≤ j) := by
  have := congrFun (congrFun (PySem.W.dataLe_int (fun x : Int => x)) i) j
  exact this
/-- sorted(..) of ints without repeats -/
theorem sort_ints {ns : List Int} (nd : ns.Nodup) : ∃ ms : List Int, (ns.map D.int).mergeSort (PySem.W.dataLe false D.py) = ms.map D.int ∧ ms.Pairwise (· < ·) ∧ ∀ k, k ∈ ms ↔ k ∈ ns := by
  refine ⟨ns.mergeSort fun a b => decide (a ≤ b), ?_, ?_, fun k => List.mem_mergeSort⟩
  · rw [PySem.W.sort_maps (s := PySem.W.dataLe false D.py) D.int fun a _ b _ => (dataLe_i a b).symm]
  · have h1 : (ns.mergeSort fun a b => decide (a ≤ b)).Pairwise (fun a b => decide (a ≤ b) = true) := List.pairwise_mergeSort (by intro a b c h1 h2; simp at *; omega) (by intro a b; simp; omega) _
    have h2 : (ns.mergeSort fun a b => decide (a ≤ b)).Nodup := (List.mergeSort_perm ns _).nodup_iff.mpr nd
    refine (h1.and h2).imp fun {a b} ⟨p, q⟩ => ?_
    simp at p
    omega
theorem alike_ints_ns {ns : List Int} : PySem.W.AllAlike ((ns.map D.int).map D.py) := fun d hd d' hd' => by
  rw [List.map_map] at hd hd'
  obtain ⟨i, _, rfl⟩ := List.mem_map.mp hd
  obtain ⟨j, _, rfl⟩ := List.mem_map.mp hd'
  rfl
theorem sortable_ints {ns : List Int} : PySem.W.Sortable ((ns.map D.int).map D.py) := .inr fun d hd => by
  rw [List.map_map] at hd
  obtain ⟨i, _, rfl⟩ := List.mem_map.mp hd
  exact ⟨fun z => (by cases z), fun xs z => (by cases z)⟩
theorem pys_ns (r : List Nat) : D.pys (r.map fun n : Nat => D.int n) = (r.map fun n : Nat => (n : Int)).map PyData.int := by
  rw [pys_map, List.map_map, List.map_map]; rfl
theorem alike_ns {Bs : List (List Nat)} : PySem.W.AllAlike ((Bs.map eNs).map D.py) := fun d hd d' hd' => by
  rw [List.map_map] at hd hd'
  obtain ⟨a, _, rfl⟩ := List.mem_map.mp hd
  obtain ⟨b, _, rfl⟩ := List.mem_map.mp hd'
  show PySem.W.alike (.tuple (D.pys _)) (.tuple (D.pys _)) = true
  rw [pys_ns, pys_ns]
  exact PySem.W.alike_ints _ _
theorem sortable_ns {Bs : List (List Nat)} (h : ∀ B ∈ Bs, B ≠ []) : PySem.W.Sortable ((Bs.map eNs).map D.py) := .inl fun d hd => by
  rw [List.map_map] at hd
  obtain ⟨a, ha, rfl⟩ := List.mem_map.mp hd
  cases a with
  | nil => exact (h _ ha rfl).elim
  | cons x r => exact ⟨_, _, rfl⟩
theorem fit_lst_ints {ns : List Int} : (D.lst (ns.map D.int)).fit = true := fitsN_all _ fun x hx => by
  obtain ⟨a, _, rfl⟩ := List.mem_map.mp hx
  exact fit_int_n
theorem fit_lst_ns {Bs : List (List Nat)} : (D.lst (Bs.map eNs)).fit = true := fitsN_all _ fun x hx => by
  obtain ⟨a, _, rfl⟩ := List.mem_map.mp hx
  exact fit_ns
/-- the order of blocks -/
def bLe (a b : List Nat) : Bool := PySem.W.dataLe false D.py (eNs a) (eNs b)
theorem sort_ns (Bs : List (List Nat)) : (Bs.map eNs).mergeSort (PySem.W.dataLe false D.py) = (Bs.mergeSort bLe).map eNs :=
  (PySem.W.sort_maps (r := bLe) (s := PySem.W.dataLe false D.py) eNs fun _ _ _ _ => rfl).symm
theorem key_int {i : Int} : (D.int i).key = .num i := by rw [D.key]
theorem key_ns (r : List Nat) : (eNs r).key = .tup (r.map fun n : Nat => NestedKey.num (n : Int)) := by
  unfold eNs
  rw [D.key, keys_map, List.map_map]
  congr 1
theorem ns_inj (a b : List Nat) (h : (eNs a).key = (eNs b).key) : a = b := by
  rw [key_ns, key_ns] at h
  injection h with h
  induction a generalizing b with
  | nil => cases b with
    | nil => rfl
    | cons y b => cases h
  | cons x a ih => cases b with
    | nil => cases h
    | cons y b =>
      rw [List.map_cons, List.map_cons] at h
      injection h with h1 h2
      injection h1 with h1
      rw [ih b h2]
      congr 1
      omega
theorem int_inj (a b : Nat) (h : (D.int (a : Int)).key = (D.int (b : Int)).key) : a = b := by
  rw [key_int, key_int] at h
  injection h with h
  omega
theorem tk_ns (r : List Nat) : (eNs r).tkey = true := by
  show D.tksN 7 (r.map fun n : Nat => D.int n) = true
  induction r with
  | nil => rfl
  | cons x r ih =>
    rw [List.map_cons, D.tksN, ih]; rfl
theorem kok_ns {α : Type} (m : List (List Nat × α)) (r : List Nat) : kok (m.map fun p => eNs p.1) (eNs r) = true := by
  unfold kok
  rw [tk_ns]
  have : (m.map fun p => eNs p.1).all D.tkey = true := by
    rw [List.all_map, List.all_eq_true]
    intro p _
    exact tk_ns p.1
  rw [this]
  rfl
theorem kok_int {α : Type} (m : List (Nat × α)) (w : Nat) : kok (m.map fun p => D.int (p.1 : Int)) (.int (w : Int)) = true := by
  unfold kok
  have : ((m.map fun p => D.int (p.1 : Int)).all fun k => k.kk.isSome) = true := by
    rw [List.all_map, List.all_eq_true]
    intro p _
    rfl
  rw [this]
  rfl

end G

set_option Elab.async false
set_option linter.all false
set_option maxRecDepth 100000
set_option maxHeartbeats 4000000
namespace G
open PySem L2 DL
theorem eqv_ns (a b : List Nat) : (eNs a).eqv (eNs b) = decide (a = b) := by
  show PyData.eqvAll (D.pys _) (D.pys _) = _
  rw [pys_ns, pys_ns]
  induction a generalizing b with
  | nil => cases b with
    | nil => rfl
    | cons y b => rfl
  | cons x a ih => cases b with
    | nil => rfl
    | cons y b =>
      show (decide ((x : Int) = (y : Int)) && PyData.eqvAll _ _) = _
      rw [ih b]
      by_cases h : x = y
      · subst h; simp
      · have : ¬ ((x : Int) = (y : Int)) := by omega
        simp [h, this]

end G

set_option Elab.async false
set_option linter.all false
set_option maxRecDepth 100000
set_option maxHeartbeats 4000000
namespace G
open PySem L2 DL
theorem sif_no {c : RT} {a b : RS} {Z : DEnds} {ρ : Rho} (hc : ∀ qb : Bool → Prop, qb false → c ρ qb) (h : b Z ρ) : sif c a b Z ρ := hc _ h
theorem sif_yes {c : RT} {a b : RS} {Z : DEnds} {ρ : Rho} (hc : ∀ qb : Bool → Prop, qb true → c ρ qb) (h : a Z ρ) : sif c a b Z ρ := hc _ h
theorem cut_take {xs : List D} {a : Nat} (h : a ≤ xs.length) : cut xs none (some (a : Int)) = xs.take a := by
  unfold cut
  rw [HT.sIx_none, HT.sIx_nat, Nat.min_eq_left h, List.drop_zero, Nat.sub_zero]
theorem cut_drop {xs : List D} {a : Nat} (h : a ≤ xs.length) : cut xs (some (a : Int)) none = xs.drop a := by
  unfold cut
  rw [HT.sIx_none, HT.sIx_nat, Nat.min_eq_left h]
  exact List.take_of_length_le (by rw [List.length_drop]; omega)

end G

set_option Elab.async false
set_option linter.all false
set_option maxRecDepth 100000
set_option maxHeartbeats 4000000
namespace G
open PySem L2 DL
/-! ### texts of machines -/
def stepS : Step → Str
  | none => "-"
  | some (g, s) => Str.empty ++ (toString (g : Int) : Str) ++ ":" ++ (toString (s : Int) : Str)
def rowS (r : List Step) : Str := Txt.join " " ("stand" :: r.map stepS)
def wrT (t : Tab) : Str := Txt.join "\n" (t.map rowS)
def stepL : Step → List Nat
  | none => [45]
  | some (g, s) => [48 + g, 58, 48 + s]
def standL : List Nat := [115, 116, 97, 110, 100]
theorem tl_numI {n : Nat} (h : n < 10) : TL.tl (toString (n : Int) : Str) = [48 + n] := by
  rw [show (toString (n : Int) : Str) = Str.ofString (toString ((n : Nat) : Int)) from rfl, TL.tl_num, TL.numL_lt h]
theorem tl_stepS {g s : Nat} (hg : g < 10) (hs : s < 10) : TL.tl (stepS (some (g, s))) = [48 + g, 58, 48 + s] := by
  unfold stepS
  rw [TL.tl_append, TL.tl_append, TL.tl_append, tl_numI hg, tl_numI hs]
  rfl
theorem tl_step {x : Step} (h : StepOk 6 x) : TL.tl (stepS x) = stepL x := by
  match x, h with
  | none, _ => rfl
  | some (g, s), h =>
    obtain ⟨h1, h2⟩ := h g s rfl
    exact tl_stepS (by omega) (by omega)
theorem stepL_len {x : Step} : (stepL x).length ≤ 3 := by
  match x with
  | none => decide
  | some (g, s) => exact Nat.le_refl 3
theorem stepS_len {x : Step} (h : StepOk 6 x) : (stepS x).length ≤ 3 := by
  rw [TL.len_tl, tl_step h]
  exact stepL_len
theorem num_log {n : Nat} (h : n < 10) : (n : Int).natAbs.log2 < 1920 := by
  have : (n : Int).natAbs = n := Int.natAbs_natCast n
  rw [this]
  have h1 : n.log2 ≤ 3 := by
    rcases (by omega : n = 0 ∨ n = 1 ∨ n = 2 ∨ n = 3 ∨ n = 4 ∨ n = 5 ∨ n = 6 ∨ n = 7 ∨ n = 8 ∨ n = 9) with h | h | h | h | h | h | h | h | h | h <;> (subst h; decide)
  omega
theorem len_app (x y : Str) : (x ++ y).length = x.length + y.length := by
  rw [TL.len_tl, TL.len_tl, TL.len_tl, TL.tl_append, List.length_append]
theorem num_len {n : Nat} (h : n < 10) : (toString (n : Int) : Str).length = 1 := by
  rw [TL.len_tl, tl_numI h]; rfl
theorem ret_step_text {x : Step} (h : StepOk 6 x) : Ret m_step_text [.im (eStep x)] (.str (stepS x)) := fun q hq => by
  rw [e_step_text]
  refine ⟨rfl, ?_⟩
  simp only [r_step_text, x_sret, x_dif, x_dtest, x_dop, x_dvar, x_dcon, List.map_cons, List.map_nil, List.cons_append, List.nil_append, List.getElem?_cons_zero, List.replicate, x_rIs]
  match x, h, hq with
  | none, _, hq => exact hq
  | some (g, s), h, hq =>
    obtain ⟨h1, h2⟩ := h g s rfl
    have l0 : Str.empty.length = 0 := rfl
    have l1 : ((":" : Str)).length = 1 := rfl
    have lg := num_len (n := g) (by omega)
    have ls := num_len (n := s) (by omega)
    rw [eStep_some]
    show DL.dfs2 ":" (dop rIx (dvar 0) (dcon (.int 0))) (dop rIx (dvar 0) (dcon (.int 1))) _ _
    refine ⟨⟨num_log (by omega), ?_, ?_⟩, num_log (by omega), ?_, hq⟩
    · rw [len_app, l0, lg]; exact small (by omega)
    · rw [len_app, len_app, l0, lg, l1]; exact small (by omega)
    · rw [len_app, len_app, len_app, l0, lg, l1, ls]; exact small (by omega)
theorem tl_rowS {r : List Step} (h : ∀ x ∈ r, StepOk 6 x) : TL.tl (rowS r) = TL.joinL [32] (standL :: r.map stepL) := by
  unfold rowS
  rw [TL.join_eq, TL.tl_join, List.map_cons, List.map_map]
  have : r.map (TL.tl ∘ stepS) = r.map stepL := List.map_congr_left fun x hx => tl_step (h x hx)
  rw [this]
  rfl
theorem joinL_len {S : List Nat} {c : Nat} : ∀ {ps : List (List Nat)}, (∀ p ∈ ps, p.length ≤ c) → (TL.joinL S ps).length ≤ ps.length * (c + S.length)
  | [], _ => by simp [TL.joinL]
  | [p], h => by
    have := h p (List.mem_cons_self ..)
    simp [TL.joinL]
    omega
  | p :: p' :: ps, h => by
    have h1 := h p (List.mem_cons_self ..)
    have h2 := joinL_len (S := S) (ps := p' :: ps) fun z hz => h z (List.mem_cons_of_mem _ hz)
    have e : TL.joinL S (p :: p' :: ps) = p ++ (S ++ TL.joinL S (p' :: ps)) := by simp [TL.joinL]
    rw [e, List.length_append, List.length_append, List.length_cons (as := p' :: ps), Nat.succ_mul]
    omega
theorem joinL_mem {S : List Nat} {c : Nat} : ∀ {ps : List (List Nat)}, c ∈ TL.joinL S ps → c ∈ S ∨ ∃ p ∈ ps, c ∈ p
  | [], h => by simp [TL.joinL] at h
  | [p], h => by
    simp [TL.joinL] at h
    exact .inr ⟨p, List.mem_cons_self .., h⟩
  | p :: p' :: ps, h => by
    have e : TL.joinL S (p :: p' :: ps) = p ++ (S ++ TL.joinL S (p' :: ps)) := by simp [TL.joinL]
    rw [e, List.mem_append, List.mem_append] at h
    rcases h with h | h | h
    · exact .inr ⟨p, List.mem_cons_self .., h⟩
    · exact .inl h
    · rcases joinL_mem h with h | ⟨z, hz, h⟩
      · exact .inl h
      · exact .inr ⟨z, List.mem_cons_of_mem _ hz, h⟩
theorem tab_step {t : Tab} {k : Nat} (o : TabOk t k) {r : List Step} (hr : r ∈ t) {x : Step} (hx : x ∈ r) : StepOk 6 x := fun g s e => by
  subst e
  have := o.step r hr g s hx
  exact ⟨Nat.lt_of_lt_of_le this.1 o.n6, this.2⟩
theorem rowS_len {r : List Step} (hl : r.length ≤ 3) (h : ∀ x ∈ r, StepOk 6 x) : (rowS r).length ≤ 24 := by
  rw [TL.len_tl, tl_rowS h]
  have := joinL_len (S := [32]) (c := 5) (ps := standL :: r.map stepL) fun p hp => by
    rcases List.mem_cons.mp hp with rfl | hp
    · decide
    · obtain ⟨x, _, rfl⟩ := List.mem_map.mp hp
      have := stepL_len (x := x)
      omega
  simp at this
  have h2 : (r.length + 1) * 6 ≤ 4 * 6 := Nat.mul_le_mul_right _ (by omega)
  omega
theorem sum_le {c : Nat} : ∀ {ys : List Str}, (∀ y ∈ ys, y.length ≤ c) → (ys.map (·.length)).sum ≤ ys.length * c
  | [], _ => by simp
  | y :: ys, h => by
    have h1 := h y (List.mem_cons_self ..)
    have h2 := sum_le (ys := ys) fun z hz => h z (List.mem_cons_of_mem _ hz)
    rw [List.map_cons, List.sum_cons, List.length_cons, Nat.succ_mul]
    omega
theorem ret_write {C : Addr} {t : Tab} {k : Nat} (o : TabOk t k) : Ret (m_write C) [.im (eMac C t)] (.str (wrT t)) := fun q hq => by
  rw [e_write]
  refine ⟨rfl, ?_⟩
  have k3 : k ≤ 3 := by rcases o.kk with h | h <;> omega
  simp only [r_write, x_sret, x_djoin, x_dcon, x_flst_, x_flc, x_itup, x_dfld, x_dvar, eMac, eTab, List.map_cons, List.map_nil, List.cons_append, List.nil_append, List.getElem?_cons_zero, List.replicate]
  refine ⟨trivial, ?_⟩
  show lcdo _ _ _ _ (t.map eRow) [] _
  refine lcdo_map (fun d => match d with | .tup ds => .str (Txt.join " " ("stand" :: ds.map fun x => match x with | .tup [.int g, .int s] => stepS (some (g.toNat, s.toNat)) | _ => "-")) | _ => .non) _ _ _ (fun d hd => ?_) ?_ ?_
  · obtain ⟨r, hr, rfl⟩ := List.mem_map.mp hd
    have hrl := o.row r hr
    refine ⟨_, rfl, fun q' hq' => ?_⟩
    have e1 : (eRow r) = .tup (r.map eStep) := rfl
    simp only [wipeR, List.set_cons_zero, List.set_cons_succ, x_dop, x_dlst, x_lcons, x_lnil, x_dcon, x_flst_, x_flc, x_itup, x_dvar, List.getElem?_cons_zero, List.getElem?_cons_succ, e1]
    refine ⟨small (by simp), ?_⟩
    have e2 : (r.map eStep).map (fun x => match x with | .tup [.int g, .int s] => stepS (some (g.toNat, s.toNat)) | _ => ("-" : Str)) = r.map stepS := by
      rw [List.map_map]
      refine List.map_congr_left fun x _ => ?_
      match x with
      | none => rfl
      | some (g, s) => rfl
    refine lcdo_map (fun x => .str (match x with | .tup [.int g, .int s] => stepS (some (g.toNat, s.toNat)) | _ => "-")) _ _ _ (fun d hd => ?_) (by simp; exact small (by omega)) ?_
    · obtain ⟨x, hx, rfl⟩ := List.mem_map.mp hd
      refine ⟨_, rfl, fun q2 hq2 => ?_⟩
      simp only [x_dcallf, x_acons, x_anil, x_dvar, List.set_cons_zero, List.set_cons_succ, List.getElem?_cons_zero, List.getElem?_cons_succ]
      refine ret_step_text (tab_step o hr hx) _ ?_
      match x, hq2 with
      | none, hq2 => exact hq2
      | some (g, s), hq2 => exact hq2
    · rw [List.nil_append]
      dsimp only
      rw [x_rAddL]
      have e3 : (r.map eStep).map (fun x => D.str (match x with | .tup [.int g, .int s] => stepS (some (g.toNat, s.toNat)) | _ => ("-" : Str))) = (r.map stepS).map D.str := by
        rw [← e2, List.map_map, List.map_map, List.map_map]
        rfl
      rw [e3]
      refine ⟨small (by simp; omega), ?_⟩
      show (match strsD (D.str "stand" :: (r.map stepS).map D.str) with | some ys => _ | none => False)
      have e4 : D.str "stand" :: (r.map stepS).map D.str = (("stand" : Str) :: r.map stepS).map D.str := rfl
      rw [e4, strs_map]
      refine ⟨?_, ?_⟩
      · have h1 := sum_le (c := 5) (ys := (("stand" : Str) :: r.map stepS)) fun y hy => by
          rcases List.mem_cons.mp hy with rfl | hy
          · decide
          · obtain ⟨x, hx, rfl⟩ := List.mem_map.mp hy
            have := stepS_len (tab_step o hr hx)
            omega
        have l1 : ((" " : Str)).length = 1 := rfl
        rw [l1]
        simp at h1 ⊢
        omega
      · have hq'' : q' (.str (Txt.join " " ("stand" :: (r.map eStep).map fun x => match x with | .tup [.int g, .int s] => stepS (some (g.toNat, s.toNat)) | _ => "-"))) := hq'
        rw [e2] at hq''
        exact hq''
  · simp; exact small (by have := o.n6; omega)
  · have e5 : (t.map eRow).map (fun d => match d with | .tup ds => D.str (Txt.join " " ("stand" :: ds.map fun x => match x with | .tup [.int g, .int s] => stepS (some (g.toNat, s.toNat)) | _ => "-")) | _ => .non) = (t.map rowS).map D.str := by
      rw [List.map_map, List.map_map]
      refine List.map_congr_left fun r _ => ?_
      show D.str (Txt.join " " ("stand" :: (r.map eStep).map fun x => match x with | .tup [.int g, .int s] => stepS (some (g.toNat, s.toNat)) | _ => "-")) = D.str (rowS r)
      unfold rowS
      congr 3
      rw [List.map_map]
      refine List.map_congr_left fun x _ => ?_
      match x with
      | none => rfl
      | some (g, s) => rfl
    rw [List.nil_append, e5]
    show (match strsD ((t.map rowS).map D.str) with | some ys => _ | none => False)
    rw [strs_map]
    refine ⟨?_, hq⟩
    have h1 := sum_le (c := 24) (ys := t.map rowS) fun y hy => by
      obtain ⟨r, hr, rfl⟩ := List.mem_map.mp hy
      exact rowS_len (by rw [o.row r hr]; omega) fun x hx => tab_step o hr hx
    have l1 : (("\n" : Str)).length = 1 := rfl
    rw [l1]
    have := o.n6
    simp at h1 ⊢
    have h2 : t.length * 24 ≤ 6 * 24 := Nat.mul_le_mul_right _ this
    omega
theorem wrT_ok {t : Tab} {k : Nat} (o : TabOk t k) : PyData.canLay0 (.str (wrT t)) = true := by
  show (wrT t).cps.all (· < 0x110000) = true
  rw [← Array.all_toList, List.all_eq_true]
  intro c hc
  have hc' : c ∈ TL.tl (wrT t) := hc
  unfold wrT at hc'
  rw [TL.join_eq, TL.tl_join] at hc'
  refine decide_eq_true ?_
  rcases joinL_mem hc' with h | ⟨p, hp, h⟩
  · have h' : c ∈ [10] := h
    simp at h'
    omega
  · obtain ⟨y, hy, rfl⟩ := List.mem_map.mp hp
    obtain ⟨r, hr, rfl⟩ := List.mem_map.mp hy
    rw [tl_rowS fun x hx => tab_step o hr hx] at h
    rcases joinL_mem h with h | ⟨p, hp, h⟩
    · simp at h
      omega
    · rcases List.mem_cons.mp hp with rfl | hp
      · simp [standL] at h
        omega
      · obtain ⟨x, hx, rfl⟩ := List.mem_map.mp hp
        have sx := tab_step o hr hx
        match x, sx, h with
        | none, _, h => simp [stepL] at h; omega
        | some (g, s), sx, h =>
          obtain ⟨h1, h2⟩ := sx g s rfl
          simp [stepL] at h
          omega

end G

set_option Elab.async false
set_option linter.all false
set_option maxRecDepth 100000
set_option maxHeartbeats 4000000
namespace G
open PySem L2 DL
open TL
/-! ### texts -/
theorem eqv_str (a b : Str) : (D.str a).eqv (.str b) = decide (a = b) := by
  show (a == b) = decide (a = b)
  by_cases h : a = b
  · subst h; simp
  · rw [decide_eq_false h]; exact beq_eq_false_iff_ne.mpr h
def GoodS (b : Nat) (x : Str) : Prop := x.length ≤ b ∧ ∀ c ∈ tl x, c < 256 ∧ c ≠ 10
theorem GoodS.lay {b : Nat} {x : Str} (h : GoodS b x) : PyData.canLay0 (.str x) = true := by
  show x.cps.all (· < 0x110000) = true
  rw [← Array.all_toList, List.all_eq_true]
  intro c hc
  have := (h.2 c hc).1
  exact decide_eq_true (by omega)
theorem GoodS.fitN {b : Nat} {x : Str} (h : GoodS b x) (n : Nat) : (D.str x).fitN n = true := by cases n <;> exact h.lay
theorem GoodS.mono {b b' : Nat} {x : Str} (h : GoodS b x) (hb : b ≤ b') : GoodS b' x := ⟨Nat.le_trans h.1 hb, h.2⟩
theorem fitsN_strs {b n : Nat} : ∀ {ws : List Str}, (∀ w ∈ ws, GoodS b w) → D.fitsN n (ws.map D.str) = true
  | [], _ => rfl
  | w :: ws, h => by
    rw [List.map_cons, D.fitsN, (h w (List.mem_cons_self ..)).fitN n, fitsN_strs fun z hz => h z (List.mem_cons_of_mem _ hz)]
    rfl
theorem fit_strs {b : Nat} {ws : List Str} (h : ∀ w ∈ ws, GoodS b w) : (D.lst (ws.map D.str)).fit = true := by
  show D.fitsN 7 _ = true
  exact fitsN_strs h
theorem strsD_map : ∀ L : List Str, strsD (L.map D.str) = some L
  | [] => rfl
  | x :: L => by rw [List.map_cons, strsD, strsD_map L]; rfl
theorem mem_joinL {S : List Nat} {c : Nat} : ∀ {ps : List (List Nat)} {p : List Nat}, p ∈ ps → c ∈ p → c ∈ joinL S ps
  | [], _, h, _ => by cases h
  | [p], q, h, hc => by rw [List.mem_singleton.mp h] at hc; exact hc
  | p :: r :: ps, q, h, hc => by
    rw [joinL]
    rcases List.mem_cons.mp h with rfl | h
    · exact List.mem_append_left _ hc
    · exact List.mem_append_right _ (List.mem_append_right _ (mem_joinL h hc))
theorem jl_mem {S : List Nat} {c : Nat} : ∀ {ps : List (List Nat)}, c ∈ joinL S ps → c ∈ S ∨ ∃ p ∈ ps, c ∈ p
  | [], h => by cases h
  | [p], h => .inr ⟨p, List.mem_singleton.mpr rfl, h⟩
  | p :: r :: ps, h => by
    rw [joinL] at h
    rcases List.mem_append.mp h with h | h
    · exact .inr ⟨p, List.mem_cons_self .., h⟩
    · rcases List.mem_append.mp h with h | h
      · exact .inl h
      · rcases jl_mem h with h | ⟨q, hq, h⟩
        · exact .inl h
        · exact .inr ⟨q, List.mem_cons_of_mem _ hq, h⟩
def sumT (ps : List (List Nat)) : Nat := (ps.map (·.length)).sum + ps.length
theorem jl_len {s : Nat} : ∀ {ps : List (List Nat)}, (joinL [s] ps).length ≤ sumT ps ∧ sumT ps ≤ (joinL [s] ps).length + 1
  | [] => by simp [joinL, sumT]
  | [p] => by simp [joinL, sumT]
  | p :: r :: ps => by
    obtain ⟨h1, h2⟩ := jl_len (s := s) (ps := r :: ps)
    have e : sumT (p :: r :: ps) = p.length + 1 + sumT (r :: ps) := by
      unfold sumT
      simp only [List.map_cons, List.sum_cons, List.length_cons]
      omega
    rw [e, joinL, List.length_append, List.length_append, List.length_singleton]
    omega
theorem part_len {s : Nat} {ps : List (List Nat)} {p : List Nat} (h : p ∈ ps) : p.length ≤ (joinL [s] ps).length := by
  have h1 := (jl_len (s := s) (ps := ps)).2
  have h2 : p.length + ps.length ≤ sumT ps := by
    unfold sumT
    have : ∀ {ps : List (List Nat)}, p ∈ ps → p.length ≤ (ps.map (·.length)).sum := by
      intro ps
      induction ps with
      | nil => intro h; cases h
      | cons q ps ih =>
        intro h
        rw [List.map_cons, List.sum_cons]
        rcases List.mem_cons.mp h with rfl | h
        · omega
        · have := ih h; omega
    have := this h
    omega
  have : 0 < ps.length := List.length_pos_of_mem h
  omega
/-- the sizes of parts, with a sign behind each -/
def sumL (ws : List Str) : Nat := sumT (ws.map tl)
theorem sumL_eq (ws : List Str) : sumL ws = (ws.map (·.length)).sum + ws.length := by
  unfold sumL sumT
  rw [List.length_map, List.map_map]
  congr 2
theorem tl_sp : tl (" " : Str) = [32] := by decide +kernel
theorem tl_nl : tl ("\n" : Str) = [10] := by decide +kernel
theorem split_tl (l : Str) : joinL [32] ((Txt.split l " ").map tl) = tl l := by
  rw [← tl_sp, ← tl_join, StrLaws.join_split]
theorem split_sum (l : Str) : sumL (Txt.split l " ") ≤ l.length + 1 := by
  have := (jl_len (s := 32) (ps := (Txt.split l " ").map tl)).2
  rw [split_tl] at this
  rw [len_tl]
  exact this
theorem split_good {b : Nat} {l : Str} (h : GoodS b l) {w : Str} (hw : w ∈ Txt.split l " ") : GoodS b w := by
  have hm : tl w ∈ (Txt.split l " ").map tl := List.mem_map.mpr ⟨w, hw, rfl⟩
  refine ⟨?_, fun c hc => h.2 c ?_⟩
  · have := part_len (s := 32) hm
    rw [split_tl] at this
    have h1 := h.1
    rw [len_tl] at h1 ⊢
    omega
  · have := mem_joinL (S := [32]) hm hc
    rwa [split_tl] at this
theorem split_count (l : Str) : (Txt.split l " ").length ≤ l.length + 1 := by
  have h1 := split_sum l
  have h2 := sumL_eq (Txt.split l " ")
  omega
theorem join_good {b : Nat} {ws : List Str} (h : ∀ w ∈ ws, ∀ c ∈ tl w, c < 256 ∧ c ≠ 10) (hs : sumL ws ≤ b) : GoodS b (Txt.join " " ws) := by
  have e : tl (Txt.join " " ws) = joinL [32] (ws.map tl) := by rw [join_eq, tl_join, tl_sp]
  refine ⟨?_, fun c hc => ?_⟩
  · rw [len_tl, e]
    exact Nat.le_trans (jl_len (s := 32)).1 hs
  · rw [e] at hc
    rcases jl_mem hc with h' | ⟨p, hp, hc⟩
    · rw [List.mem_singleton.mp h']; decide
    · obtain ⟨w, hw, rfl⟩ := List.mem_map.mp hp
      exact h w hw c hc
theorem lines_back {Ls : List Str} (hne : Ls ≠ []) (h : ∀ l ∈ Ls, (10 : Nat) ∉ tl l) : Txt.split (Txt.join "\n" Ls) "\n" = Ls := split_join tl_nl (by decide +kernel) hne h
theorem lines_len {Ls : List Str} : (Txt.join "\n" Ls).length ≤ sumL Ls := by
  rw [len_tl, join_eq, tl_join, tl_nl]
  exact (jl_len (s := 10)).1
def wordsOf (l : Str) : List Str := (Txt.split l " ").filter fun w => decide (w ≠ "")
/-! ### readings of texts -/
section
variable {ρ : Rho} {te : RE} {q : D → Prop}
theorem q_split {l : Str} {s : Str} (hs : (s.length == 0) = false) (h : ∀ q : D → Prop, q (.str l) → te ρ q) (hl : l.length ≤ 16000000) (w : q (.lst ((Txt.split l s).map D.str))) : dsplit te (dcon (.str s)) ρ q := by
  refine h _ ⟨hs, ?_, w⟩
  rw [sizeLine_eq]; omega
theorem q_join {ws : List Str} {s : Str} (hs : s.length ≤ 1) (h : ∀ q : D → Prop, q (.lst (ws.map D.str)) → te ρ q) (hl : sumL ws ≤ 16000000) (w : q (.str (Txt.join s ws))) : djoin (dcon (.str s)) te ρ q := by
  refine h _ ?_
  show (match strsD (ws.map D.str) with | some ys => _ | none => False)
  rw [strsD_map]
  refine ⟨?_, w⟩
  rw [sumL_eq] at hl
  have : ws.length * s.length ≤ ws.length * 1 := Nat.mul_le_mul_left _ hs
  omega
theorem q_words {i j : Nat} {b : Nat} {l : Str} (hl : GoodS b l) (hb : b ≤ 1000) (h : ∀ q : D → Prop, q (.str l) → dvar i ρ q) (hj : (wipeR ρ [j])[i]? = ρ[i]?) (w : q (.lst ((wordsOf l).map D.str))) (hp : j < ρ.length) :
    flst_ (flc (ilst (dsplit (dvar i) (dcon (.str " ")))) [j] (.one j) (dtest (dop DL.rNe (dvar j) (dcon (.str "")))) (dvar j)) ρ q := by
  rw [x_flst_, x_flc, x_ilst]
  refine q_split (by decide +kernel) h (by have := hl.1; omega) ?_
  refine q_lcF D.str D.str (fun w => decide (w ≠ "")) _ [] _ (fun x hx => ⟨_, rfl, fun q' w' => ?_, fun _ q' w' => ?_⟩) ?_ ?_
  · have hg := split_good hl hx
    refine q_op (d := .str x) (e := .str "") (fun q w => ?_) (fun q w => w) ⟨hg.fitN 8, by decide +kernel, ?_⟩
    · exact q_var (by rw [List.getElem?_set_self (by simpa [wipeR] using hp)]) w
    · rw [eqv_str]
      have : (!decide (x = "")) = decide (x ≠ "") := by by_cases e : x = "" <;> simp [e]
      rw [this]
      exact w'
  · exact q_var (by rw [List.getElem?_set_self (by simpa [wipeR] using hp)]) w'
  · have h1 := split_count l
    have h2 := hl.1
    exact small (by simp; omega)
  · exact w
end
theorem words_good {b : Nat} {l : Str} (h : GoodS b l) : ∀ w ∈ wordsOf l, GoodS b w := fun w hw => split_good h (List.mem_filter.mp hw).1
theorem words_len {b : Nat} {l : Str} (h : GoodS b l) : (wordsOf l).length ≤ b + 1 := by
  have h1 := List.length_filter_le (fun w : Str => decide (w ≠ "")) (Txt.split l " ")
  have h2 := split_count l
  have h3 := h.1
  unfold wordsOf
  omega
/-! ### wide lines -/
theorem repl_part {z : List Nat} {s : Nat} : ∀ (p rest : List Nat), s ∉ p → PySem.StrLaws.replL [s] z (p ++ rest) = p ++ PySem.StrLaws.replL [s] z rest
  | [], _, _ => rfl
  | c :: p, rest, h => by
    have hc : ¬ (c :: (p ++ rest)).take [s].length = [s] := fun e => by
      rw [List.length_singleton, List.take_succ_cons, List.take_zero] at e
      injection e with e
      exact h (e ▸ List.mem_cons_self ..)
    rw [List.cons_append, PySem.StrLaws.replL_miss hc, repl_part p rest fun z => h (List.mem_cons_of_mem _ z), List.cons_append]
theorem join_cons {S p : List Nat} {T : List (List Nat)} (h : T ≠ []) : joinL S (p :: T) = p ++ (S ++ joinL S T) := by
  cases T with
  | nil => exact (h rfl).elim
  | cons q r => rfl
theorem repl_join {z : List Nat} {s : Nat} : ∀ {ps : List (List Nat)}, (∀ p ∈ ps, s ∉ p) → PySem.StrLaws.replL [s] z (joinL [s] ps) = joinL z ps
  | [], _ => PySem.StrLaws.replL_nil
  | [p], h => by
    have := repl_part (z := z) p [] (h p (List.mem_cons_self ..))
    rw [List.append_nil, PySem.StrLaws.replL_nil, List.append_nil] at this
    exact this
  | p :: q :: r, h => by
    rw [join_cons (List.cons_ne_nil _ _), join_cons (List.cons_ne_nil _ _), repl_part p _ (h p (List.mem_cons_self ..))]
    rw [List.singleton_append, PySem.StrLaws.replL_hit (by simp) (by simp)]
    rw [show [s].length = 1 from rfl, List.drop_succ_cons, List.drop_zero, repl_join fun p hp => h p (List.mem_cons_of_mem _ hp)]
theorem join_front {s : Nat} {E : List (List Nat)} (h : E ≠ []) : ∀ a : Nat, joinL [s] (List.replicate a [] ++ E) = List.replicate a s ++ joinL [s] E
  | 0 => rfl
  | a + 1 => by
    rw [List.replicate_succ, List.cons_append, join_cons (by simp [h]), join_front h a, List.replicate_succ]
    rfl
theorem join_nils {s : Nat} (b : Nat) : joinL [s] (List.replicate (b + 1) []) = List.replicate b s := by
  rw [List.replicate_succ', join_front (by simp)]
  show List.replicate b s ++ [] = _
  rw [List.append_nil]
theorem join_back {s : Nat} (b : Nat) : ∀ {E : List (List Nat)}, E ≠ [] → joinL [s] (E ++ List.replicate b []) = joinL [s] E ++ List.replicate b s
  | [p], _ => by
    cases b with
    | zero => show joinL [s] [p] = p ++ []; rw [List.append_nil]; rfl
    | succ b =>
      rw [List.singleton_append, join_cons (by simp [List.replicate_succ]), join_nils]
      rfl
  | p :: q :: r, _ => by
    rw [List.cons_append, join_cons (by simp), join_back b (E := q :: r) (List.cons_ne_nil _ _), join_cons (List.cons_ne_nil _ _)]
    simp only [List.append_assoc]
def spread (j : Nat) : List (List Nat) → List (List Nat)
  | [] => []
  | [p] => [p]
  | p :: q :: r => p :: (List.replicate j [] ++ spread j (q :: r))
theorem spread_ne {j : Nat} : ∀ {ps : List (List Nat)}, ps ≠ [] → spread j ps ≠ []
  | [p], _ => by simp [spread]
  | p :: q :: r, _ => by simp [spread]
theorem join_spread {s j : Nat} : ∀ {ps : List (List Nat)}, joinL [s] (spread j ps) = joinL (List.replicate (j + 1) s) ps
  | [] => rfl
  | [p] => rfl
  | p :: q :: r => by
    have hn := spread_ne (j := j) (ps := q :: r) (List.cons_ne_nil _ _)
    rw [spread, join_cons (by simp [hn]), join_front hn, join_spread, join_cons (List.cons_ne_nil _ _), List.replicate_succ]
    rfl
theorem filter_nils {α : Type} (b : Nat) (f : List Nat → Bool) (h : f [] = false) : (List.replicate b ([] : List Nat)).filter f = [] := by
  rw [List.filter_replicate, h]; rfl
theorem filter_spread {j : Nat} {f : List Nat → Bool} (h0 : f [] = false) : ∀ {ps : List (List Nat)}, (∀ p ∈ ps, f p = true) → (spread j ps).filter f = ps
  | [], _ => rfl
  | [p], h => by rw [spread, List.filter_cons, if_pos (h p (List.mem_cons_self ..)), List.filter_nil]
  | p :: q :: r, h => by
    rw [spread, List.filter_cons, if_pos (h p (List.mem_cons_self ..)), List.filter_append, filter_nils (α := Nat) j f h0, List.nil_append, filter_spread h0 fun p hp => h p (List.mem_cons_of_mem _ hp)]
def mkS (l : List Nat) : Str := ⟨l.toArray⟩
theorem mkS_ne {l : List Nat} : (mkS l ≠ "") = (l ≠ []) := by
  apply propext
  constructor
  · intro h e; subst e; exact h rfl
  · intro h e
    have := congrArg tl e
    exact h this
theorem spread_mem {j : Nat} {x : List Nat} : ∀ {ps : List (List Nat)}, x ∈ spread j ps → x = [] ∨ x ∈ ps
  | [], h => by cases h
  | [p], h => .inr h
  | p :: q :: r, h => by
    rw [spread] at h
    rcases List.mem_cons.mp h with rfl | h
    · exact .inr (List.mem_cons_self ..)
    · rcases List.mem_append.mp h with h | h
      · exact .inl (List.eq_of_mem_replicate h)
      · exact (spread_mem h).imp_right fun z => List.mem_cons_of_mem _ z
theorem words_wide {ws : List Str} (hne : ws ≠ []) (h : ∀ w ∈ ws, w ≠ "" ∧ 32 ∉ tl w) {l : Str} {a k b : Nat} (hl : tl l = List.replicate a 32 ++ joinL (List.replicate (k + 1) 32) (ws.map tl) ++ List.replicate b 32) : wordsOf l = ws := by
  have hm : ws.map tl ≠ [] := fun e => hne (List.map_eq_nil_iff.mp e)
  have hs := spread_ne (j := k) hm
  let E : List (List Nat) := List.replicate a [] ++ spread k (ws.map tl) ++ List.replicate b []
  have hE : E ≠ [] := by simp [E, hs]
  have e1 : l = Txt.join " " (E.map mkS) := by
    apply ext_tl
    rw [join_eq, tl_join, List.map_map, tl_sp, hl]
    have : E.map (tl ∘ mkS) = E := by
      have : (tl ∘ mkS) = id := by funext x; rfl
      rw [this, List.map_id]
    rw [this]
    show _ = joinL [32] (List.replicate a [] ++ spread k (ws.map tl) ++ List.replicate b [])
    rw [join_back b (by simp [hs]), join_front hs, join_spread]
  have e2 : Txt.split l " " = E.map mkS := by
    rw [e1]
    refine split_join tl_sp (by decide +kernel) (by simpa using hE) fun p hp => ?_
    obtain ⟨x, hx, rfl⟩ := List.mem_map.mp hp
    show 32 ∉ x
    rcases List.mem_append.mp hx with hx | hx
    · rcases List.mem_append.mp hx with hx | hx
      · rw [List.eq_of_mem_replicate hx]; simp
      · rcases spread_mem hx with rfl | hx
        · simp
        · obtain ⟨w, hw, rfl⟩ := List.mem_map.mp hx
          exact (h w hw).2
    · rw [List.eq_of_mem_replicate hx]; simp
  unfold wordsOf
  rw [e2, List.filter_map]
  have e3 : (fun w : Str => decide (w ≠ "")) ∘ mkS = fun x : List Nat => decide (x ≠ []) := by
    funext x
    show decide (mkS x ≠ "") = decide (x ≠ [])
    rw [decide_eq_decide, mkS_ne]
  rw [e3]
  have e4 : E.filter (fun x => decide (x ≠ [])) = ws.map tl := by
    show (List.replicate a [] ++ spread k (ws.map tl) ++ List.replicate b []).filter _ = _
    rw [List.filter_append, List.filter_append, filter_nils (α := Nat) a _ (by simp), filter_nils (α := Nat) b _ (by simp), List.nil_append, List.append_nil]
    refine filter_spread (by simp) fun p hp => ?_
    obtain ⟨w, hw, rfl⟩ := List.mem_map.mp hp
    have := (h w hw).1
    refine decide_eq_true fun e => this ?_
    apply ext_tl
    rw [e]; rfl
  rw [e4, List.map_map]
  have e5 : mkS ∘ tl = id := by funext x; exact mk_tl x
  rw [e5, List.map_id]
/-! ### all words -/
abbrev Kw := List (Str × Step)
def dctM (m : Kw) : D := .dct (m.map fun p => D.str p.1) (m.map fun p => eStep p.2)
theorem str_inj : ∀ a b : Str, (D.str a).key = (D.str b).key → a = b := fun a b h => by
  have h' : NestedKey.text a = NestedKey.text b := h
  injection h'
theorem kok_str {α : Type} (m : List (Str × α)) (w : Str) : kok (m.map fun p => D.str p.1) (.str w) = true := by
  unfold kok
  have h1 : (D.str w).kk.isSome = true := rfl
  have h2 : ((m.map fun p => D.str p.1).all fun k => k.kk.isSome) = true := by
    rw [List.all_map, List.all_eq_true]
    intro p _
    rfl
  rw [h1, h2]; rfl
theorem stepS_inj {g s g' s' : Nat} (h1 : g < 10) (h2 : s < 10) (h3 : g' < 10) (h4 : s' < 10) (e : stepS (some (g, s)) = stepS (some (g', s'))) : g = g' ∧ s = s' := by
  have := congrArg tl e
  rw [tl_stepS h1 h2, tl_stepS h3 h4] at this
  injection this with e1 e2
  injection e2 with _ e2
  injection e2 with e2 _
  omega
theorem dash_ne {g s : Nat} (h1 : g < 10) (h2 : s < 10) : ("-" : Str) ≠ stepS (some (g, s)) := fun e => by
  have := congrArg (fun x => (tl x).length) e
  have h0 : (tl ("-" : Str)).length = 1 := by decide +kernel
  simp only [tl_stepS h1 h2, h0] at this
  simp at this
structure KV (P : Nat → Nat → Prop) (c : Nat) (m : Kw) : Prop where
  lack : aget m "-" = some none
  val : ∀ g s, P g s → g < 6 ∧ s ≤ 3 ∧ aget m (stepS (some (g, s))) = some (some (g, s))
  nd : (m.map (·.1)).Nodup
  len : m.length ≤ c
theorem KV.imp {P Q : Nat → Nat → Prop} {c c' : Nat} {m : Kw} (h : KV P c m) (hi : ∀ g s, Q g s → P g s) (hc : c ≤ c') : KV Q c' m := ⟨h.lack, fun g s q => h.val g s (hi g s q), h.nd, Nat.le_trans h.len hc⟩
theorem KV.put {P : Nat → Nat → Prop} {c : Nat} {m : Kw} (h : KV P c m) {g0 s0 : Nat} (hg : g0 < 6) (hs : s0 ≤ 3) : KV (fun g s => P g s ∨ (g = g0 ∧ s = s0)) (c + 1) (aput m (stepS (some (g0, s0))) (some (g0, s0))) where
  lack := by
    rw [aget_aput, if_neg (dash_ne (by omega) (by omega))]
    exact h.lack
  val := fun g s q => by
    rw [aget_aput]
    rcases q with q | ⟨rfl, rfl⟩
    · obtain ⟨h1, h2, h3⟩ := h.val g s q
      refine ⟨h1, h2, ?_⟩
      split
      · rename_i e
        obtain ⟨rfl, rfl⟩ := stepS_inj (by omega) (by omega) (by omega) (by omega) e
        rfl
      · exact h3
    · exact ⟨hg, hs, if_pos rfl⟩
  nd := aput_nodup h.nd
  len := by
    have := aput_len m (stepS (some (g0, s0))) (some (g0, s0))
    have := h.len
    omega
def Pk (n c : Nat) (g s : Nat) : Prop := (g < n ∧ s ≤ 3) ∨ (g = n ∧ s < c)
theorem wN_more : ∀ s : Nat, s < 6 → (Str.empty ++ (toString (s : Int) : Str)).length ≤ 5 ∧ (Str.empty ++ (toString (s : Int) : Str) ++ (":" : Str)).length ≤ 5 := by decide +kernel
theorem log_small : ∀ i : Nat, i < 6 → (i : Int).natAbs.log2 < 1920 := by decide +kernel
def awB : RS := (sput 1 (dfs2 ":" (dvar 2) (dvar 3)) (dtup (lcons (dvar 2) (lcons (dvar 3) lnil))))
theorem aw_in {s : Nat} (hs : s < 6) {Z : DEnds} {x0 : Option Sl} : ∀ (l c : Nat) (m : Kw) (x3 : Option Sl), c + l = 4 → KV (Pk s c) (1 + 4 * s + c) m →
    (∀ m' x3, KV (Pk (s + 1) 0) (1 + 4 * (s + 1)) m' → Z.nx [x0, some (.md (m'.map fun p => D.str p.1) (m'.map fun p => eStep p.2)), some (Sl.im (.int (s : Int))), x3]) →
    fordo (.one 3) awB Z (nums (c : Int) l) [x0, some (.md (m.map fun p => D.str p.1) (m.map fun p => eStep p.2)), some (Sl.im (.int (s : Int))), x3]
  | 0, c, m, x3, e, h, hn' => by
    have ec : c = 4 := by omega
    subst ec
    exact hn' m x3 (h.imp (fun g x q => by unfold Pk at q ⊢; omega) (by omega))
  | l + 1, c, m, x3, e, h, hn' => by
    rw [nums_succ, fordo_cons]
    show awB _ [x0, some (.md (m.map fun p => D.str p.1) (m.map fun p => eStep p.2)), some (Sl.im (.int (s : Int))), some (Sl.im (.int (c : Int)))]
    unfold awB
    have hm := h.len
    obtain ⟨g1, g2⟩ := wN_more s (by omega)
    have hsl : (stepS (some (s, c))).length ≤ 3 := stepS_len (x := some (s, c)) (fun g x e => by injection e with e; injection e with e1 e2; omega)
    refine q_put1 (d := .str (stepS (some (s, c)))) (e := eStep (some (s, c))) (fun qd w => ⟨small (by simp), w⟩) rfl (fun qd w => ?_) (kok_str m _) (by simp) (small' (by simp; omega)) ?_
    · exact ⟨⟨log_small s (by omega), small (by omega), small (by omega)⟩, log_small c (by omega), small (by show (stepS (some (s, c))).length ≤ _; omega), w⟩
    · have e1 := kputK_typed (e := D.str) str_inj m (stepS (some (s, c))) (some (s, c))
      have e2 := kputV_typed (e := D.str) (f := eStep) str_inj m (stepS (some (s, c))) (some (s, c)) h.nd
      rw [e1, e2]
      show fordo _ _ _ _ [x0, some (.md ((aput m (stepS (some (s, c))) (some (s, c))).map fun p => D.str p.1) ((aput m (stepS (some (s, c))) (some (s, c))).map fun p => eStep p.2)), some (Sl.im (.int (s : Int))), some (Sl.im (.int (c : Int)))]
      rw [show ((c : Int) + 1) = ((c + 1 : Nat) : Int) from rfl]
      refine aw_in hs l (c + 1) _ _ (by omega) ?_ hn'
      exact (h.put (g0 := s) (s0 := c) hs (by omega)).imp (fun g x q => by unfold Pk at q ⊢; omega) (by omega)
theorem aw_out {n : Nat} (hn : n ≤ 6) {Z : DEnds} {x0 : Option Sl} : ∀ (l s : Nat) (m : Kw) (x2 x3 : Option Sl), s + l = n → KV (Pk s 0) (1 + 4 * s) m →
    (∀ m' x2 x3, KV (Pk n 0) (1 + 4 * n) m' → Z.nx [x0, some (.md (m'.map fun p => D.str p.1) (m'.map fun p => eStep p.2)), x2, x3]) →
    fordo (.one 2) (sfor (irng1 (dop DL.rAdd (dcon (.int 3)) (dcon (.int 1)))) (.one 3) awB) Z (nums (s : Int) l) [x0, some (.md (m.map fun p => D.str p.1) (m.map fun p => eStep p.2)), x2, x3]
  | 0, s, m, x2, x3, e, h, hn' => by
    have : s = n := by omega
    subst this
    exact hn' m x2 x3 h
  | l + 1, s, m, x2, x3, e, h, hn' => by
    rw [nums_succ, fordo_cons]
    show (sfor _ _ _) _ [x0, some (.md (m.map fun p => D.str p.1) (m.map fun p => eStep p.2)), some (Sl.im (.int (s : Int))), x3]
    refine q_for1 (ds := nums ((0 : Nat) : Int) 4) (fun ql w => ⟨by decide, w⟩) ?_
    refine aw_in (by omega) 4 0 m x3 rfl h fun m' x3 h' => ?_
    show fordo _ _ _ _ _
    rw [show ((s : Int) + 1) = ((s + 1 : Nat) : Int) from rfl]
    exact aw_out hn l (s + 1) m' _ x3 (by omega) h' hn'
theorem ret_words {n : Nat} (hn : n ≤ 6) : Rets m_all_words [.im (.int (n : Int))] (fun d => ∃ m, KV (Pk n 0) (1 + 4 * n) m ∧ d = dctM m) := fun q hq => by
  rw [e_all_words]
  refine ⟨rfl, ?_⟩
  rw [r_all_words]
  simp only [List.map_cons, List.map_nil, List.cons_append, List.nil_append, List.replicate]
  refine q_ownD (ks := [(("-" : Str), (none : Step))].map fun p : Str × Step => D.str p.1) (vs := [(("-" : Str), (none : Step))].map fun p : Str × Step => eStep p.2) (fun q w => ⟨rfl, w⟩) ?_
  simp only [List.set_cons_succ, List.set_cons_zero]
  refine q_for (ds := nums ((0 : Nat) : Int) n) (fun ql w => ?_) ?_
  · show (-(2 ^ 62) ≤ (n : Int) ∧ (n : Int) < 2 ^ 62) ∧ ql (nums 0 (n : Int).toNat)
    rw [Int.toNat_natCast]
    exact ⟨⟨by omega, by omega⟩, w⟩
  refine aw_out hn n 0 [("-", none)] none none (by omega) ⟨?_, fun g s q => ?_, by simp, by simp⟩ fun m' x2 x3 h => ?_
  · rw [aget_cons, if_pos rfl]
  · unfold Pk at q; omega
  · dsimp only
    refine q_frzD rfl ?_
    simp only [List.set_cons_succ, List.set_cons_zero]
    exact hq _ ⟨m', h, rfl⟩
/-! ### take_row -/
theorem stand_good : GoodS 5 ("stand" : Str) := ⟨by decide +kernel, by decide +kernel⟩
theorem eqv_strs (a b : List Str) : (D.lst (a.map D.str)).eqv (.lst (b.map D.str)) = decide (a = b) := by
  show PyData.eqvAll (D.pys (a.map D.str)) (D.pys (b.map D.str)) = _
  induction a generalizing b with
  | nil => cases b <;> rfl
  | cons x a ih =>
    cases b with
    | nil => rfl
    | cons y b =>
      show (PyData.eqv (D.py (.str x)) (D.py (.str y)) && PyData.eqvAll (D.pys (a.map D.str)) (D.pys (b.map D.str))) = _
      rw [ih b, show PyData.eqv (D.py (.str x)) (D.py (.str y)) = decide (x = y) from eqv_str x y]
      by_cases h1 : x = y <;> by_cases h2 : a = b <;> simp [h1, h2]
theorem c_head {ρ : Rho} {i : Nat} {b : Nat} {ws : List Str} (hw : ∀ w ∈ ws, GoodS b w) (h0 : ρ[i]? = some (some (Sl.im (.lst (ws.map D.str))))) {qb : Bool → Prop} (h : qb (decide (ws.take 1 ≠ [("stand" : Str)]))) :
    dtest (dop DL.rNe (dsl (dvar i) dno (dpart (dcon (.int 1)))) (dlst (lcons (dcon (.str "stand")) lnil))) ρ qb := by
  have hc : cut (ws.map D.str) none (some 1) = (ws.take 1).map D.str := by
    cases ws with
    | nil => rfl
    | cons x r => rw [List.map_take]; exact cut_take (a := 1) (by simp)
  refine q_op (d := .lst ((ws.take 1).map D.str)) (e := .lst ([("stand" : Str)].map D.str)) (fun q w => ?_) (fun q w => ⟨small (by simp), w⟩) ⟨fit_strs (b := b) fun w hw' => hw w (List.mem_of_mem_take hw'), fit_strs (b := 5) (fun w hw => by rw [List.mem_singleton.mp hw]; exact stand_good), ?_⟩
  · rw [x_dsl]
    refine q_var h0 ?_
    show q (.lst (cut (ws.map D.str) none (some 1)))
    rw [hc]
    exact w
  · rw [eqv_strs]
    have e : (!decide (ws.take 1 = [("stand" : Str)])) = decide (ws.take 1 ≠ [("stand" : Str)]) := by by_cases z : ws.take 1 = [("stand" : Str)] <;> simp [z]
    rw [e]
    exact h
def eOI : Option Nat → D
  | none => .non
  | some n => .int (n : Nat)
theorem tk_lim {L : Option Nat} {ρ : Rho} (h2 : ρ[2]? = some (some (Sl.im (eOI L)))) {te : RE} {c : Nat} (hc : ∀ q : D → Prop, q (.int (c : Int)) → te ρ q) {q : D → Prop} (h : q (.int ((L.getD c : Nat) : Int))) : dif (dtest (dop DL.rIsNot (dvar 2) (dcon .non))) (dvar 2) te ρ q := by
  rw [x_dif, x_dtest]
  refine q_op (d := eOI L) (e := .non) (fun q w => q_var h2 w) (fun q w => w) ?_
  rw [x_rIsNot]
  cases L with
  | none => exact hc _ h
  | some l => exact q_var h2 h
theorem max23 {ρ : Rho} {q : D → Prop} (h : q (.int 3)) : dcall rMaxT (lcons (dcon (.tup [(.int 2), (.int 3)])) lnil) ρ q := by
  refine ⟨by decide, fun m hm hy => ?_⟩
  have h3 := hy 3 (by decide)
  have : m = 3 := by
    have h' : m = 2 ∨ m = 3 := by simpa using hm
    omega
  rw [this]
  exact h
theorem min23 {ρ : Rho} {q : D → Prop} (h : q (.int 2)) : dcall rMinT (lcons (dcon (.tup [(.int 2), (.int 3)])) lnil) ρ q := by
  refine ⟨by decide, fun m hm hy => ?_⟩
  have h3 := hy 2 (by decide)
  have : m = 2 := by
    have h' : m = 2 ∨ m = 3 := by simpa using hm
    omega
  rw [this]
  exact h
def mostN (L : Option Nat) : Nat := L.getD 3
theorem KV.get {n c : Nat} {m : Kw} (h : KV (Pk n 0) c m) {x : Step} (hx : StepOk n x) : aget m (stepS x) = some x := by
  match x, hx with
  | none, _ => exact h.lack
  | some (g, s), hx =>
    have := hx g s rfl
    exact (h.val g s (.inl this)).2.2
theorem stepS_good {x : Step} (h : StepOk 6 x) : GoodS 5 (stepS x) := by
  refine ⟨Nat.le_trans (stepS_len h) (by omega), fun c hc => ?_⟩
  rw [tl_step h] at hc
  match x, h, hc with
  | none, _, hc =>
    rw [show c = 45 from List.mem_singleton.mp hc]; decide
  | some (g, s), h, hc =>
    have := h g s rfl
    rcases List.mem_cons.mp hc with rfl | hc
    · omega
    · rcases List.mem_cons.mp hc with rfl | hc
      · omega
      · rw [List.mem_singleton.mp hc]; omega
def tkB : RS := (sseq (sif (dor (dtest (dop rNotInD (dvar 7) (dvar 1))) (dtest (dop DL.rGe (dcall DL.rLen (lcons (bvar 5) lnil)) (dvar 4))))
  snever
  snext) (sapp 5 (dop rIxD (dvar 1) (dvar 7))))
theorem tk_loop {m : Kw} {most i : Nat} {Z : DEnds} {x0 x2 : Option Sl} : ∀ (r rs : List Step) (x6 x7 : Option Sl), rs.length + r.length ≤ most → most ≤ 3 → (∀ x ∈ r, aget m (stepS x) = some x) →
    (∀ x6 x7, Z.nx [x0, some (Sl.im (dctM m)), x2, some (Sl.im (.int (i : Int))), some (Sl.im (.int (most : Int))), some (.ml ((rs ++ r).map eStep)), x6, x7]) →
    fordo (.many [6, 7]) tkB Z (pairs ((rs.length + 2 : Nat) : Int) ((r.map stepS).map D.str)) [x0, some (Sl.im (dctM m)), x2, some (Sl.im (.int (i : Int))), some (Sl.im (.int (most : Int))), some (.ml (rs.map eStep)), x6, x7]
  | [], rs, x6, x7, _, _, _, hn => by rw [List.append_nil] at hn; exact hn x6 x7
  | x :: r, rs, x6, x7, hl, h3, hg, hn => by
    rw [List.map_cons, List.map_cons, pairs, fordo_cons]
    show tkB _ [x0, some (Sl.im (dctM m)), x2, some (Sl.im (.int (i : Int))), some (Sl.im (.int (most : Int))), some (.ml (rs.map eStep)), some (Sl.im (.int ((rs.length + 2 : Nat) : Int))), some (Sl.im (.str (stepS x)))]
    rw [List.length_cons] at hl
    have hx := hg x (List.mem_cons_self ..)
    unfold tkB
    refine q_skip (fun qb w => q_or (fun q w' => ?_) ?_) ?_
    · rw [x_dtest]
      refine q_op (d := .str (stepS x)) (e := dctM m) (fun q w => w) (fun q w => w) ?_
      unfold dctM
      rw [x_rNotInD]
      refine ⟨kok_str m _, ?_⟩
      rw [kix_some (e := D.str) str_inj m (stepS x), hx]
      exact w'
    · rw [x_dtest]
      refine q_op (d := .int (rs.length : Int)) (e := .int (most : Int)) (fun q w => ?_) (fun q w => w) ?_
      · show q (.int (((rs.map eStep).length : Nat) : Int))
        rw [List.length_map]
        exact w
      · rw [x_rGe, decide_eq_false (by omega)]
        exact w
    · refine q_app1 (ds := rs.map eStep) (d := eStep x) rfl (fun qd w' => ?_) (small' (by simp; omega)) ?_
      · refine q_op (d := dctM m) (e := .str (stepS x)) (fun q w => w) (fun q w => w) ?_
        unfold dctM
        rw [x_rIxD]
        refine ⟨kok_str m _, ?_⟩
        rw [kget_typed (e := D.str) (f := eStep) str_inj m (stepS x), hx]
        exact w'
      · have e1 : rs.map eStep ++ [eStep x] = (rs ++ [x]).map eStep := by rw [List.map_append]; rfl
        have e2 : (rs ++ [x]).length = rs.length + 1 := by simp
        rw [e1]
        have ih := tk_loop (m := m) (most := most) (i := i) (Z := Z) (x0 := x0) (x2 := x2) r (rs ++ [x]) (some (Sl.im (.int ((rs.length + 2 : Nat) : Int)))) (some (Sl.im (.str (stepS x)))) (by rw [e2]; omega) h3
          (fun y hy => hg y (List.mem_cons_of_mem _ hy)) (by intro x6 x7; rw [List.append_assoc]; exact hn x6 x7)
        rw [e2] at ih
        rw [show (((rs.length + 2 : Nat) : Int) + 1) = ((rs.length + 1 + 2 : Nat) : Int) by omega]
        exact ih
def wordsR (r : List Step) : List Str := ("stand" : Str) :: r.map stepS
theorem wordsR_good {r : List Step} (h : ∀ x ∈ r, StepOk 6 x) : ∀ w ∈ wordsR r, GoodS 5 w := fun w hw => by
  rcases List.mem_cons.mp hw with rfl | hw
  · exact stand_good
  · obtain ⟨x, hx, rfl⟩ := List.mem_map.mp hw
    exact stepS_good (h x hx)
theorem ret_take {n c : Nat} (hn : n ≤ 6) {m : Kw} (hm : KV (Pk n 0) c m) {r : List Step} (hr : ∀ x ∈ r, StepOk n x) (h2 : 2 ≤ r.length) (h3 : r.length ≤ 3) {L : Option Nat} (hL : L = none ∨ L = some r.length) {i : Nat} :
    Ret m_take_row [.im (.lst ((wordsR r).map D.str)), .im (dctM m), .im (eOI L), .im (.int (i : Int))] (eRow r) := fun q hq => by
  rw [e_take_row]
  refine ⟨rfl, ?_⟩
  rw [r_take_row]
  have h6 : ∀ x ∈ r, StepOk 6 x := fun x hx g s e => by have := hr x hx g s e; omega
  have hw := wordsR_good h6
  have hmost : r.length ≤ mostN L ∧ mostN L ≤ 3 ∧ L.getD 2 ≤ r.length := by
    rcases hL with rfl | rfl
    · exact ⟨h3, Nat.le_refl 3, h2⟩
    · exact ⟨Nat.le_refl _, h3, Nat.le_refl _⟩
  generalize hws : wordsR r = ws at hw ⊢
  simp only [List.map_cons, List.map_nil, List.cons_append, List.nil_append, List.replicate]
  have hd : ws.take 1 = [("stand" : Str)] := by rw [← hws]; rfl
  refine q_skip (fun qb w => c_head hw rfl (by rw [decide_eq_false (fun z => z hd)]; exact w)) ?_
  refine q_set (d := .int ((mostN L : Nat) : Int)) (fun qd w => tk_lim (c := 3) rfl (fun q w => max23 w) w) ?_
  refine q_own (ds := []) (fun ql w => ⟨Nat.zero_le _, w⟩) ?_
  simp only [List.set_cons_succ, List.set_cons_zero]
  refine q_for (ds := pairs ((0 + 2 : Nat) : Int) ((r.map stepS).map D.str)) (fun ql w => ?_) ?_
  · show ql (pairs 2 (cut (ws.map D.str) (some 1) none)) 
    have : cut (ws.map D.str) (some ((1 : Nat) : Int)) none = (r.map stepS).map D.str := by
      rw [cut_drop (by simp [← hws, wordsR]), ← List.map_drop, ← hws]
      rfl
    rw [show (some (1 : Int)) = some ((1 : Nat) : Int) from rfl, this]
    exact w
  refine tk_loop r [] none none (by simpa using hmost.1) hmost.2.1 (fun x hx => hm.get (hr x hx)) fun x6 x7 => ?_
  dsimp only
  rw [List.nil_append]
  refine q_skip (fun qb w => ?_) ?_
  · rw [x_dtest]
    refine q_op (d := .int (r.length : Int)) (e := .int ((L.getD 2 : Nat) : Int)) (fun q w => ?_) (fun q w => tk_lim (c := 2) rfl (fun q w => min23 w) w) ?_
    · show q (.int (((r.map eStep).length : Nat) : Int))
      rw [List.length_map]
      exact w
    · rw [x_rLt, decide_eq_false (by omega)]
      exact w
  · exact q_ret (d := eRow r) (fun qd w => w) hq
/-! ### read -/
def rowsD (rows : List (List Str)) : D := .lst (rows.map fun ws => .lst (ws.map D.str))
theorem q_rows {i j : Nat} {b : Nat} {Ls : List Str} (hL : ∀ l ∈ Ls, GoodS b l) (hb : b ≤ 1000) (hl : Ls.length ≤ 1000) {ρ : Rho} {w : RL} (hw : ∀ ql : List D → Prop, ql (Ls.map D.str) → w ρ ql) (hij : i < j) (hj : j < ρ.length) {q : D → Prop} (h : q (rowsD (Ls.map wordsOf))) :
    flst_ (flc w [i] (.one i) dyes (flst_ (flc (ilst (dsplit (dvar i) (dcon (.str " ")))) [j] (.one j) (dtest (dop DL.rNe (dvar j) (dcon (.str "")))) (dvar j)))) ρ q := by
  rw [x_flst_, x_flc]
  refine hw _ ?_
  refine q_lc D.str (fun l => D.lst ((wordsOf l).map D.str)) Ls [] _ (fun l hl' => ⟨_, rfl, fun q' w' => ?_⟩) (small (by simp; omega)) ?_
  · have h0 : ((wipeR ρ [i]).set i (some (Sl.im (.str l))))[i]? = some (some (Sl.im (.str l))) := by
      rw [List.getElem?_set_self]
      show i < (ρ.set i none).length
      rw [List.length_set]; omega
    refine q_words (hL l hl') hb (fun q w => q_var h0 w) ?_ w' ?_
    · show (((wipeR ρ [i]).set i (some (Sl.im (.str l)))).set j none)[i]? = _
      rw [List.getElem?_set_ne (by omega)]
    · show j < ((ρ.set i none).set i _).length
      rw [List.length_set, List.length_set]; exact hj
  · rw [List.nil_append]
    unfold rowsD at h
    rw [List.map_map] at h
    exact h
theorem fits_row : ∀ r : List Step, D.fitsN 6 (r.map eStep) = true
  | [] => rfl
  | x :: r => by
    rw [List.map_cons, D.fitsN, fits_row r]
    match x with
    | none => rfl
    | some (g, s) => rfl
theorem fits_rows : ∀ rs : List (List Step), D.fitsN 7 (rs.map eRow) = true
  | [] => rfl
  | r :: rs => by
    rw [List.map_cons, D.fitsN, fits_rows rs]
    show (D.fitsN 6 (r.map eStep) && true) = true
    rw [fits_row]; rfl
def LRk (k : Nat) : List (List Step) → Option Nat
  | [] => none
  | _ :: _ => some k
def rdB : RS := (sseq (sif (dtest (dop DL.rGt (dvar 4) (dcon (.int 6))))
  snever
  snext) (sapp 3 (dcallf m_take_row (acons (dvar 5) (acons (dvar 2) (acons (dif (dtest (dop DL.rNe (bvar 3) (dlst lnil))) (dcall DL.rLen (lcons (dop DL.rIx (bvar 3) (dcon (.int 0))) lnil)) (dcon .non)) (acons (dvar 4) anil)))))))
theorem rd_loop {t : Tab} {k c : Nat} (o : TabOk t k) {m : Kw} (hm : KV (Pk t.length 0) c m) {Z : DEnds} {x0 x1 x6 x7 : Option Sl} :
    ∀ (r rs : List (List Step)) (x4 x5 : Option Sl), t = rs ++ r → (∀ x4 x5, Z.nx [x0, x1, some (Sl.im (dctM m)), some (.ml (t.map eRow)), x4, x5, x6, x7]) →
    fordo (.many [4, 5]) rdB Z (pairs ((rs.length + 1 : Nat) : Int) (r.map fun r => D.lst ((wordsR r).map D.str))) [x0, x1, some (Sl.im (dctM m)), some (.ml (rs.map eRow)), x4, x5, x6, x7]
  | [], rs, x4, x5, e, hn => by
    rw [List.append_nil] at e
    rw [e] at hn
    exact hn x4 x5
  | row :: r, rs, x4, x5, e, hn => by
    rw [List.map_cons, pairs, fordo_cons]
    show rdB _ [x0, x1, some (Sl.im (dctM m)), some (.ml (rs.map eRow)), some (Sl.im (.int ((rs.length + 1 : Nat) : Int))), some (Sl.im (.lst ((wordsR row).map D.str))), x6, x7]
    have hrow : row ∈ t := by rw [e]; simp
    have hlen : rs.length + 1 + r.length = t.length := by rw [e]; simp; omega
    have h6 := o.n6
    unfold rdB
    refine q_skip (fun qb w => ?_) ?_
    · show qb (decide ((((rs.length + 1 : Nat) : Int)) > 6))
      rw [decide_eq_false (by omega)]
      exact w
    refine q_app1 (ds := rs.map eRow) (d := eRow row) rfl (fun qd w => ?_) (small' (by simp; omega)) ?_
    · refine q_call (ss := [.im (.lst ((wordsR row).map D.str)), .im (dctM m), .im (eOI (LRk k rs)), .im (.int ((rs.length + 1 : Nat) : Int))]) (fun qa w => ?_)
        (ret_take h6 hm (fun x hx g s e' => o.step row hrow g s (e' ▸ hx)) (by rw [o.row row hrow]; rcases o.kk with h | h <;> omega) (by rw [o.row row hrow]; rcases o.kk with h | h <;> omega) (by cases rs with | nil => exact .inl rfl | cons a b => exact .inr (by rw [o.row row hrow]; rfl)) _ w)
      refine q_ac (d := .lst ((wordsR row).map D.str)) (fun q w => w) (q_ac (d := dctM m) (fun q w => w) (q_ac (d := eOI (LRk k rs)) (fun q w2 => ?_) (q_ac (d := .int ((rs.length + 1 : Nat) : Int)) (fun q w => w) w)))
      rw [x_dif, x_dtest]
      refine q_op (d := .lst (rs.map eRow)) (e := .lst []) (fun q w => w) (fun q w => ⟨Nat.zero_le _, w⟩) ⟨fits_rows rs, rfl, ?_⟩
      cases rs with
      | nil => exact w2
      | cons a rs =>
        have ha : a ∈ t := by rw [e]; simp
        show (dcall DL.rLen (lcons (dop DL.rIx (bvar 3) (dcon (.int 0))) lnil)) _ q
        have h00 : atI ((a :: rs).map eRow) ((0 : Nat) : Int) = some (eRow a) := atI_nat rfl
        show DL.rIx (.lst ((a :: rs).map eRow)) (.int 0) (fun d => DL.rLen [d] q)
        rw [x_rIxL, show (0 : Int) = ((0 : Nat) : Int) from rfl, h00]
        dsimp only
        unfold eRow
        rw [x_rLenT, List.length_map, o.row a ha]
        exact w2
    · have e1 : rs.map eRow ++ [eRow row] = (rs ++ [row]).map eRow := by rw [List.map_append]; rfl
      have e2 : (rs ++ [row]).length = rs.length + 1 := by simp
      rw [e1, show (((rs.length + 1 : Nat) : Int) + 1) = ((rs.length + 1 + 1 : Nat) : Int) from rfl]
      have ih := rd_loop o hm (Z := Z) (x0 := x0) (x1 := x1) (x6 := x6) (x7 := x7) r (rs ++ [row]) (some (Sl.im (.int ((rs.length + 1 : Nat) : Int)))) (some (Sl.im (.lst ((wordsR row).map D.str)))) (by rw [e]; simp) hn
      rw [e2] at ih
      exact ih
theorem ret_read {C : Addr} {t : Tab} {k : Nat} (o : TabOk t k) {Ls : List Str} (hl : Ls.map wordsOf = t.map wordsR) (hg : ∀ l ∈ Ls, GoodS 200 l) (hs : sumL Ls ≤ 16000000) : Ret (m_read C) [.im (.str (Txt.join "\n" Ls))] (eMac C t) := fun q hq => by
  rw [e_read]
  refine ⟨rfl, ?_⟩
  rw [r_read]
  have hlen : Ls.length = t.length := by have := congrArg List.length hl; simpa using this
  have h6 := o.n6
  have hne : Ls ≠ [] := fun z => by have := o.n1; rw [z] at hlen; simp at hlen; omega
  simp only [List.map_cons, List.map_nil, List.cons_append, List.nil_append, List.replicate]
  have hjl : (Txt.join "\n" Ls).length ≤ 16000000 := Nat.le_trans lines_len hs
  refine q_set (d := rowsD (Ls.map wordsOf)) (fun qd w => q_rows (i := 6) (j := 7) (w := ilst (dsplit (dvar 0) (dcon (.str "\n")))) hg (by omega) (by omega) (fun ql w' => ?_) (by decide) (by simp) w) ?_
  · rw [x_ilst]
    refine q_split (l := Txt.join "\n" Ls) (by decide +kernel) (fun q w => w) hjl ?_
    rw [lines_back hne fun l hl z => (hg l hl).2 10 z |>.2 rfl]
    exact w'
  simp only [List.set_cons_succ, List.set_cons_zero]
  refine q_parA (S := fun s t' => (∃ m, KV (Pk t.length 0) (1 + 4 * t.length) m ∧ s = .im (dctM m)) ∧ t' = .ml []) (fun qa w => ?_) ?_
  · refine q_acA (S := fun d => ∃ m, KV (Pk t.length 0) (1 + 4 * t.length) m ∧ d = dctM m) (fun q w' => ?_) (fun d hd => ?_)
    · refine q_call (ss := [.im (.int (t.length : Int))]) (fun qa w2 => ?_) (ret_words h6 _ fun d hd => w' d hd)
      show qa [.im (.int (if (6 : Int) < ((((Ls.map wordsOf).map fun ws => D.lst (ws.map D.str)).length : Nat) : Int) then 6 else ((((Ls.map wordsOf).map fun ws => D.lst (ws.map D.str)).length : Nat) : Int)))]
      rw [List.length_map, List.length_map, hlen, if_neg (by omega)]
      exact w2
    · obtain ⟨m, hm, rfl⟩ := hd
      exact ⟨Nat.zero_le _, w _ _ ⟨⟨m, hm, rfl⟩, rfl⟩⟩
  rintro s t' ⟨⟨m, hm, rfl⟩, rfl⟩
  simp only [List.set_cons_succ, List.set_cons_zero]
  refine q_for (ds := pairs ((0 + 1 : Nat) : Int) ((Ls.map wordsOf).map fun ws : List Str => D.lst (ws.map D.str))) (fun ql w => w) ?_
  rw [hl, List.map_map]
  refine rd_loop o hm t [] none none rfl fun x4 x5 => ?_
  dsimp only
  rw [x_sret, x_dmake]
  show m_check_table [.im (eTab t)] _
  exact ret_check_table o _ hq
/-! ### the law -/
theorem ret_ptable {C : Addr} {t : Tab} : Ret (m_p_table C) [.im (eMac C t)] (eTab t) := fun q hq => by
  rw [e_p_table]
  refine ⟨rfl, ?_⟩
  simp only [r_p_table, x_sret, x_dfld, x_dvar, eMac, List.map_cons, List.map_nil, List.cons_append, List.nil_append, List.getElem?_cons_zero]
  exact ⟨trivial, hq⟩
theorem alk_step {n : Nat} {x : Step} : alk (n + 1) (eStep x) := by
  match x with
  | none => trivial
  | some (g, s) =>
    refine ⟨by simp, fun y hy => ?_⟩
    rcases List.mem_cons.mp hy with rfl | hy
    · cases n <;> exact trivial
    · rw [List.mem_singleton.mp hy]; cases n <;> exact trivial
theorem alk_tab {n : Nat} {t : Tab} {k : Nat} (o : TabOk t k) : alk (n + 3) (eTab t) := by
  have n6 := o.n6
  refine ⟨by simp; omega, fun y hy => ?_⟩
  obtain ⟨r, hr, rfl⟩ := List.mem_map.mp hy
  have := o.row r hr
  have := o.kk
  refine ⟨by simp; omega, fun z hz => ?_⟩
  obtain ⟨x, _, rfl⟩ := List.mem_map.mp hz
  exact alk_step
theorem fitN_step {n : Nat} {x : Step} : (eStep x).fitN (n + 1) = true := by
  match x with
  | none => rfl
  | some (g, s) => rfl
theorem fits_map {α : Type} {f : α → D} {n : Nat} (h : ∀ x, (f x).fitN n = true) : ∀ xs : List α, D.fitsN n (xs.map f) = true
  | [] => rfl
  | x :: xs => by
    show (D.fitN n (f x) && D.fitsN n (xs.map f)) = true
    rw [h x, fits_map h xs]; rfl
theorem fit_tab {t : Tab} : (eTab t).fit = true := by
  show D.fitsN 7 (t.map eRow) = true
  refine fits_map (fun r => ?_) t
  show D.fitsN 6 (r.map eStep) = true
  exact fits_map (fun x => fitN_step) r
theorem ret_eq {C : Addr} {t t' : Tab} : Ret (m_q_eq C) [.im (eMac C t), .im (eMac C t')] (.bl ((eTab t).eqv (eTab t'))) := fun q hq => by
  rw [e_q_eq]
  refine ⟨rfl, ?_⟩
  rw [r_q_eq, x_sret, x_dandv]
  show C = C ∧ _
  refine ⟨rfl, ?_⟩
  simp only [x_iteT, x_dop, x_dfld, x_dvar, eMac, List.map_cons, List.map_nil, List.cons_append, List.nil_append, List.getElem?_cons_zero, List.getElem?_cons_succ]
  refine ⟨trivial, ?_⟩
  rw [rows_lookup]
  refine ⟨trivial, ?_⟩
  rw [rows_lookup]
  show DL.rEq (eTab t) (eTab t') q
  rw [x_rEq]
  exact ⟨fit_tab, fit_tab, hq⟩
theorem eqvD_refl {d : D} (h : d.fit = true) : d.eqv d = true := SeqAt.eqv_refl d.py (fitN_lay 8 d h).1
theorem empty_app (x : Str) : Str.empty ++ x = x := ext_tl (by rw [tl_append]; rfl)
theorem rowS_eq (r : List Step) : rowS r = Txt.join " " (wordsR r) := rfl
theorem tl_row (r : List Step) : tl (rowS r) = joinL [32] ((wordsR r).map tl) := by rw [rowS_eq, join_eq, tl_join, tl_sp]
theorem stepL_no {x : Step} : (32 : Nat) ∉ stepL x ∧ stepL x ≠ [] := by
  match x with
  | none => exact ⟨by decide, by decide⟩
  | some (g, s) =>
    refine ⟨fun h => ?_, fun h => by cases h⟩
    rcases List.mem_cons.mp h with h | h
    · omega
    · rcases List.mem_cons.mp h with h | h
      · omega
      · have := List.mem_singleton.mp h; omega
theorem wordsR_ok {r : List Step} (h : ∀ x ∈ r, StepOk 6 x) : ∀ w ∈ wordsR r, w ≠ "" ∧ (32 : Nat) ∉ tl w := fun w hw => by
  rcases List.mem_cons.mp hw with rfl | hw
  · exact ⟨by decide +kernel, by decide +kernel⟩
  · obtain ⟨x, hx, rfl⟩ := List.mem_map.mp hw
    obtain ⟨h1, h2⟩ := stepL_no (x := x)
    rw [tl_step (h x hx)]
    refine ⟨fun e => h2 ?_, h1⟩
    rw [← tl_step (h x hx), e]; rfl
/-- l is the line x with wider gaps and with ends -/
def Wide (x l : Str) : Prop := ∃ a k b : Nat, a ≤ 2 ∧ k ≤ 2 ∧ b ≤ 1 ∧ l.length ≤ 110 ∧ tl l = List.replicate a 32 ++ PySem.StrLaws.replL [32] (List.replicate (k + 1) 32) (tl x) ++ List.replicate b 32
theorem Wide.words {r : List Step} (h : ∀ x ∈ r, StepOk 6 x) {l : Str} (w : Wide (rowS r) l) : wordsOf l = wordsR r ∧ GoodS 200 l := by
  obtain ⟨a, k, b, _, _, _, hlen, hl⟩ := w
  have ok := wordsR_ok h
  have e : tl l = List.replicate a 32 ++ joinL (List.replicate (k + 1) 32) ((wordsR r).map tl) ++ List.replicate b 32 := by
    rw [hl, tl_row, repl_join fun p hp => ?_]
    obtain ⟨w, hw, rfl⟩ := List.mem_map.mp hp
    exact (ok w hw).2
  refine ⟨words_wide (by simp [wordsR]) ok e, by omega, fun c hc => ?_⟩
  rw [e] at hc
  rcases List.mem_append.mp hc with hc | hc
  · rcases List.mem_append.mp hc with hc | hc
    · rw [List.eq_of_mem_replicate hc]; decide
    · rcases jl_mem hc with hc | ⟨p, hp, hc⟩
      · rw [List.eq_of_mem_replicate hc]; decide
      · obtain ⟨w, hw, rfl⟩ := List.mem_map.mp hp
        exact (wordsR_good h w hw).2 c hc
  · rw [List.eq_of_mem_replicate hc]; decide
theorem row_words {r : List Step} (h : ∀ x ∈ r, StepOk 6 x) (hl : r.length ≤ 3) : wordsOf (rowS r) = wordsR r ∧ GoodS 200 (rowS r) := by
  refine ⟨words_wide (a := 0) (k := 0) (b := 0) (by simp [wordsR]) (wordsR_ok h) (by rw [tl_row]; simp), by have := rowS_len hl h; omega, fun c hc => ?_⟩
  rw [tl_row] at hc
  rcases jl_mem hc with hc | ⟨p, hp, hc⟩
  · rw [List.mem_singleton.mp hc]; decide
  · obtain ⟨w, hw, rfl⟩ := List.mem_map.mp hp
    exact (wordsR_good h w hw).2 c hc
theorem rep_sp : ∀ n : Nat, n < 4 → tl (repS " " (n : Int)) = List.replicate n 32 ∧ (repS " " (n : Int)).length = n := by decide +kernel
theorem wide_step {Z : DEnds} {x0 x2 x3 x4 x5 x6 x7 x10 x11 x12 x13 x14 : Option Sl} {ds : List D} {x : Str} (hx : x.length ≤ 24) (hd : ds.length ≤ 100)
    (hn : ∀ l x10 x11, Wide x l → Z.nx [x0, some Sl.src, x2, x3, x4, x5, x6, x7, some (.ml (ds ++ [.str l])), some (.im (.str x)), x10, x11, x12, x13, x14]) :
    (sreplW 10 11 9 8 " " (dop DL.rAdd (dcon (.int 1)) (dcallf m_next (asrc 1 (acons (dcon (.int 3)) anil)))) (dlst (lcons (dop rMulS (dcon (.str " ")) (dcallf m_next (asrc 1 (acons (dcon (.int 3)) anil)))) (lcons (dop rMulS (dcon (.str " ")) (dcallf m_next (asrc 1 (acons (dcon (.int 2)) anil)))) lnil)))) Z
      [x0, some Sl.src, x2, x3, x4, x5, x6, x7, some (.ml ds), some (.im (.str x)), x10, x11, x12, x13, x14] := by
  simp only [sreplW, x_dop, x_dcon, x_dcallf, x_asrc, x_acons, x_anil, x_dlst, x_lcons, x_lnil, List.getElem?_cons_succ, List.getElem?_cons_zero]
  refine next_ (by decide) (by decide) fun n1 h1 => ?_
  show (-1000 ≤ (1 + (n1 : Int)) ∧ (1 + (n1 : Int)) ≤ 1000) ∧ _
  refine ⟨⟨by omega, by omega⟩, ?_⟩
  refine next_ (by decide) (by decide) fun n2 h2 => ?_
  refine ⟨by omega, by omega, by decide +kernel, ?_⟩
  refine next_ (by decide) (by decide) fun n3 h3 => ?_
  refine ⟨by omega, by omega, by decide +kernel, ?_⟩
  refine ⟨small (by simp), ?_⟩
  obtain ⟨r1, r1'⟩ := rep_sp (n1 + 1) (by omega)
  obtain ⟨r2, r2'⟩ := rep_sp n2 (by omega)
  obtain ⟨r3, r3'⟩ := rep_sp n3 (by omega)
  have e1 : (1 + (n1 : Int)) = ((n1 + 1 : Nat) : Int) := by omega
  have hr := TK.replace_len x " " (repS " " ((n1 + 1 : Nat) : Int))
  have hm : (x.length + 1) * (repS " " ((n1 + 1 : Nat) : Int)).length ≤ 25 * 3 := Nat.mul_le_mul (by omega) (by rw [r1']; omega)
  have hla : (repS " " (n2 : Int) ++ Txt.replace x " " (repS " " ((n1 + 1 : Nat) : Int))).length = n2 + (Txt.replace x " " (repS " " ((n1 + 1 : Nat) : Int))).length := by rw [len_app, r2']
  show (_ ∧ _ ∧ _ ∧ _) ∧ _
  rw [e1]
  refine ⟨⟨by omega, small (by rw [r2']; omega), small (by rw [hla, r3']; omega), small' (by omega)⟩, ?_⟩
  refine hn _ _ _ ⟨n2, n1, n3, by omega, by omega, by omega, ?_, ?_⟩
  · rw [len_app, hla, r3']; omega
  · rw [tl_append, tl_append, r2, r3]
    have := PySem.StrLaws.replace_list (x := x) (y := " ") (z := repS " " ((n1 + 1 : Nat) : Int)) (by decide +kernel)
    have e2 : tl (Txt.replace x " " (repS " " ((n1 + 1 : Nat) : Int))) = PySem.StrLaws.replL [32] (List.replicate (n1 + 1) 32) (tl x) := by
      rw [← r1, ← tl_sp]
      exact this
    rw [e2]
/-! ### the rows as lines -/
def lnB : RS := (sseq (sset 6 (flst_ (flc (itup (dvar 5)) [14] (.one 14) dyes (dif (dtest (dop rIs (dvar 14) (dcon .non))) (dcon (.str "-")) (dop rAddS (dop rAddS (dcall rStrI (lcons (dop DL.rIx (dvar 14) (dcon (.int 0))) lnil)) (dcon (.str ":"))) (dcall rStrI (lcons (dop DL.rIx (dvar 14) (dcon (.int 1))) lnil))))))) (sapp 4 (djoin (dcon (.str " ")) (dop DL.rAdd (dlst (lcons (dcon (.str "stand")) lnil)) (dvar 6)))))
theorem word_of {x : Step} (h : StepOk 6 x) {ρ : Rho} (h0 : ρ[14]? = some (some (.im (eStep x)))) {q : D → Prop} (w : q (.str (stepS x))) :
    dif (dtest (dop rIs (dvar 14) (dcon .non))) (dcon (.str "-")) (dop rAddS (dop rAddS (dcall rStrI (lcons (dop DL.rIx (dvar 14) (dcon (.int 0))) lnil)) (dcon (.str ":"))) (dcall rStrI (lcons (dop DL.rIx (dvar 14) (dcon (.int 1))) lnil))) ρ q := by
  simp only [x_dif, x_dtest, x_dop, x_dvar, x_dcon, h0]
  match x, h, w with
  | none, _, w => exact w
  | some (g, s), h, w =>
    obtain ⟨h1, h2⟩ := h g s rfl
    have l1 : ((":" : Str)).length = 1 := rfl
    have lg := num_len (n := g) (by omega)
    have ls := num_len (n := s) (by omega)
    rw [eStep_some]
    simp only [x_dcall, x_lcons, x_lnil, x_dop, x_dvar, x_dcon, h0]
    show DL.rStrI [.int (g : Int)] fun x => rAddS x (.str ":") fun x => DL.rStrI [.int (s : Int)] fun y => rAddS x y q
    refine ⟨num_log (by omega), ?_⟩
    refine ⟨small (by rw [lg, l1]; omega), num_log (by omega), ?_⟩
    refine ⟨small (by rw [len_app, lg, l1, ls]; omega), ?_⟩
    have e : (toString (g : Int) : Str) ++ ":" ++ (toString (s : Int) : Str) = stepS (some (g, s)) := by
      show _ = Str.empty ++ _ ++ _ ++ _
      rw [empty_app]
    rw [e]
    exact w
theorem ln_loop {Z : DEnds} {x0 x1 x2 x3 x7 x8 x9 x10 x11 x12 x13 : Option Sl} : ∀ (r : List (List Step)) (ls : List Str) (x5 x6 x14 : Option Sl), (∀ row ∈ r, row.length ≤ 3 ∧ ∀ x ∈ row, StepOk 6 x) → ls.length + r.length ≤ 100 →
    (∀ x5 x6 x14, Z.nx [x0, x1, x2, x3, some (.ml ((ls ++ r.map rowS).map D.str)), x5, x6, x7, x8, x9, x10, x11, x12, x13, x14]) →
    fordo (.one 5) lnB Z (r.map eRow) [x0, x1, x2, x3, some (.ml (ls.map D.str)), x5, x6, x7, x8, x9, x10, x11, x12, x13, x14]
  | [], ls, x5, x6, x14, _, _, hn => by
    rw [List.map_nil, List.append_nil] at hn
    exact hn x5 x6 x14
  | row :: r, ls, x5, x6, x14, h, hl, hn => by
    obtain ⟨h3, ho⟩ := h row (List.mem_cons_self ..)
    rw [List.length_cons] at hl
    rw [List.map_cons, fordo_cons]
    show lnB _ [x0, x1, x2, x3, some (.ml (ls.map D.str)), some (.im (eRow row)), x6, x7, x8, x9, x10, x11, x12, x13, x14]
    unfold lnB
    refine q_set (d := .lst ((row.map stepS).map D.str)) (fun qd w => ?_) ?_
    · rw [x_flst_, x_flc, x_itup]
      refine q_var rfl ?_
      show lcdo _ _ _ _ (row.map eStep) [] _
      refine q_lc eStep (fun x => D.str (stepS x)) row [] _ (fun x hx => ⟨_, rfl, fun q' w' => ?_⟩) (small (by simp; omega)) ?_
      · exact word_of (ho x hx) rfl w'
      · rw [List.nil_append]
        rw [List.map_map] at w
        exact w
    · simp only [List.set_cons_succ, List.set_cons_zero]
      have hg := wordsR_good ho
      refine q_app1 (ds := ls.map D.str) (d := .str (rowS row)) rfl (fun qd w => ?_) (small' (by simp; omega)) ?_
      · refine q_join (ws := wordsR row) (by decide +kernel) (fun q w => ?_) ?_ w
        · refine q_op (d := .lst [.str "stand"]) (e := .lst ((row.map stepS).map D.str)) (fun q w => ⟨small (by simp), w⟩) (fun q w => w) ?_
          rw [x_rAddL]
          exact ⟨small (by simp; omega), w⟩
        · rw [sumL_eq]
          have h1 : (wordsR row).length ≤ 4 := by simp [wordsR]; omega
          have h2 : ((wordsR row).map (·.length)).sum ≤ (wordsR row).length * 5 := sum_le fun w hw => (hg w hw).1
          omega
      · simp only [List.set_cons_succ, List.set_cons_zero]
        have e1 : ls.map D.str ++ [.str (rowS row)] = (ls ++ [rowS row]).map D.str := by rw [List.map_append]; rfl
        rw [e1]
        exact ln_loop r (ls ++ [rowS row]) _ _ _ (fun z hz => h z (List.mem_cons_of_mem _ hz)) (by simp; omega) (by intro x5 x6 x14; rw [List.append_assoc]; exact hn x5 x6 x14)
/-! ### the wide lines -/
def wdB : RS := (sreplW 10 11 9 8 " " (dop DL.rAdd (dcon (.int 1)) (dcallf m_next (asrc 1 (acons (dcon (.int 3)) anil)))) (dlst (lcons (dop rMulS (dcon (.str " ")) (dcallf m_next (asrc 1 (acons (dcon (.int 3)) anil)))) (lcons (dop rMulS (dcon (.str " ")) (dcallf m_next (asrc 1 (acons (dcon (.int 2)) anil)))) lnil))))
theorem wd_loop {Z : DEnds} {x0 x2 x3 x4 x5 x6 x7 x12 x13 x14 : Option Sl} : ∀ (r : List (List Step)) (ls : List Str) (x9 x10 x11 : Option Sl), (∀ row ∈ r, row.length ≤ 3 ∧ ∀ x ∈ row, StepOk 6 x) → ls.length + r.length ≤ 100 → (∀ l ∈ ls, GoodS 200 l) →
    (∀ (ls' : List Str) x9 x10 x11, ls'.map wordsOf = ls.map wordsOf ++ r.map wordsR → (∀ l ∈ ls', GoodS 200 l) → Z.nx [x0, some Sl.src, x2, x3, x4, x5, x6, x7, some (.ml (ls'.map D.str)), x9, x10, x11, x12, x13, x14]) →
    fordo (.one 9) wdB Z ((r.map rowS).map D.str) [x0, some Sl.src, x2, x3, x4, x5, x6, x7, some (.ml (ls.map D.str)), x9, x10, x11, x12, x13, x14]
  | [], ls, x9, x10, x11, _, _, hg, hn => hn ls _ _ _ (by simp) hg
  | row :: r, ls, x9, x10, x11, h, hl, hg, hn => by
    obtain ⟨h3, ho⟩ := h row (List.mem_cons_self ..)
    rw [List.length_cons] at hl
    rw [List.map_cons, List.map_cons, fordo_cons]
    show wdB _ [x0, some Sl.src, x2, x3, x4, x5, x6, x7, some (.ml (ls.map D.str)), some (.im (.str (rowS row))), x10, x11, x12, x13, x14]
    unfold wdB
    refine wide_step (rowS_len h3 ho) (by simp; omega) fun l x10 x11 w => ?_
    obtain ⟨w1, w2⟩ := w.words ho
    have e1 : ls.map D.str ++ [.str l] = (ls ++ [l]).map D.str := by rw [List.map_append]; rfl
    rw [e1]
    dsimp only
    refine wd_loop r (ls ++ [l]) _ _ _ (fun z hz => h z (List.mem_cons_of_mem _ hz)) (by simp; omega) (fun z hz => ?_) fun ls' x9 x10 x11 e g => hn ls' x9 x10 x11 ?_ g
    · rcases List.mem_append.mp hz with hz | hz
      · exact hg z hz
      · rw [List.mem_singleton.mp hz]; exact w2
    · rw [e, List.map_append, List.append_assoc, List.map_cons]
      show _ ++ ([wordsOf l] ++ _) = _
      rw [w1]
      rfl
/-! ### what is read back -/
def rbB (C : Addr) : RS := (sseq (sset 13 (dcallf (m_read C) (acons (dvar 12) anil))) (sif (dor (dnot (dtest (dcallf (m__law_alike 9) (acons (dprop C (m_p_table C) (dvar 13)) (acons (dvar 3) anil))))) (dor (dnot (dtest (deqo C (m_q_eq C) (dvar 13) (dmake C m_check_table (dvar 3))))) (dnot (dtest (dcallf (m__law_alike 9) (acons (dcallf (m_write C) (acons (dvar 13) anil)) (acons (dvar 7) anil)))))))
  (sret (dcon (.bl false)))
  snext))
theorem wrT_lay {t : Tab} {k : Nat} (o : TabOk t k) : PyData.canLay0 (.str (wrT t)) = true := by
  show (wrT t).cps.all (· < 0x110000) = true
  rw [← Array.all_toList, List.all_eq_true]
  intro c hc
  have hc' : c ∈ tl (wrT t) := hc
  unfold wrT at hc'
  rw [join_eq, tl_join, tl_nl] at hc'
  rcases jl_mem hc' with h | ⟨p, hp, h⟩
  · rw [List.mem_singleton.mp h]; decide
  · obtain ⟨l, hl, rfl⟩ := List.mem_map.mp hp
    obtain ⟨r, hr, rfl⟩ := List.mem_map.mp hl
    have := ((row_words (fun x hx => tab_step o hr hx) (by rw [o.row r hr]; rcases o.kk with h | h <;> omega)).2.2 c h).1
    exact decide_eq_true (by omega)
theorem rb_step {C : Addr} {t : Tab} {k : Nat} (o : TabOk t k) {Ls : List Str} (hl : Ls.map wordsOf = t.map wordsR) (hg : ∀ l ∈ Ls, GoodS 200 l) {Z : DEnds} {x0 x1 x2 x4 x5 x6 x8 x9 x10 x11 x13 x14 : Option Sl}
    (hn : ∀ x13, Z.nx [x0, x1, x2, some (.im (eTab t)), x4, x5, x6, some (.im (.str (wrT t))), x8, x9, x10, x11, some (.im (.str (Txt.join "\n" Ls))), x13, x14]) :
    rbB C Z [x0, x1, x2, some (.im (eTab t)), x4, x5, x6, some (.im (.str (wrT t))), x8, x9, x10, x11, some (.im (.str (Txt.join "\n" Ls))), x13, x14] := by
  have hlen : Ls.length = t.length := by have := congrArg List.length hl; simpa using this
  have h6 := o.n6
  have hs : sumL Ls ≤ 16000000 := by
    rw [sumL_eq]
    have h2 : (Ls.map (·.length)).sum ≤ Ls.length * 200 := sum_le fun w hw => (hg w hw).1
    have : Ls.length * 200 ≤ 6 * 200 := Nat.mul_le_mul_right _ (by omega)
    omega
  unfold rbB
  refine q_set (d := eMac C t) (fun qd w => q_call (ss := [.im (.str (Txt.join "\n" Ls))]) (fun qa w => w) (ret_read o hl hg hs _ w)) ?_
  simp only [List.set_cons_succ, List.set_cons_zero]
  refine q_no (fun qb w => q_or (fun q w' => ?_) (q_or (fun q w' => ?_) ?_)) (hn _)
  · refine q_call (ss := [.im (eTab t), .im (eTab t)]) (fun qa w => ?_) (ret_alike 8 _ (alk_tab (n := 5) o) _ w')
    refine q_ac (d := eTab t) (fun q w2 => ?_) (q_ac (d := eTab t) (fun q w => w) w)
    exact ⟨rfl, ret_ptable _ w2⟩
  · show m_check_table [.im (eTab t)] _
    refine ret_check_table o _ ?_
    refine ⟨rfl, rfl, ret_eq _ ⟨_, rfl, ?_⟩⟩
    rw [eqvD_refl fit_tab]
    exact w'
  · refine q_call (ss := [.im (.str (wrT t)), .im (.str (wrT t))]) (fun qa w' => ?_) (ret_alike 8 (.str (wrT t)) (wrT_lay o) _ w)
    exact q_ac (d := .str (wrT t)) (fun q w2 => q_call (ss := [.im (eMac C t)]) (fun qa w3 => w3) (ret_write o _ w2)) (q_ac (d := .str (wrT t)) (fun q w => w) w')
theorem good (C : Addr) : Good (r_law C) 13 := by
  unfold Good
  rw [r_law]
  simp only [List.replicate]
  refine q_for (ds := nums ((0 : Nat) : Int) 5) (fun ql w => ⟨by decide, w⟩) ?_
  refine fordo_inv (fun _ ρ => ∃ x2 x3 x4 x5 x6 x7 x8 x9 x10 x11 x12 x13 x14, ρ = [none, some Sl.src, x2, x3, x4, x5, x6, x7, x8, x9, x10, x11, x12, x13, x14]) ?_ ?_ _ _ ⟨_, _, _, _, _, _, _, _, _, _, _, _, _, rfl⟩
  · rintro ρ ⟨x2, x3, x4, x5, x6, x7, x8, x9, x10, x11, x12, x13, x14, rfl⟩
    dsimp only
    exact q_ret (d := .bl true) (fun qd w => w) rfl
  · rintro d ds ρ ⟨x2, x3, x4, x5, x6, x7, x8, x9, x10, x11, x12, x13, x14, rfl⟩
    refine ⟨_, rfl, fun nx hnx => ?_⟩
    dsimp only
    refine q_parA (S := fun s u => (∃ t k, TabOk t k ∧ s = .im (eTab t)) ∧ u = .ml []) (fun qa w => ?_) ?_
    · refine q_acA (S := fun d => ∃ t k, TabOk t k ∧ d = eTab t) (fun q w' => ?_) (fun d hd => ?_)
      · exact q_call (ss := [.src]) (fun qa w => w) (ret_table _ fun d hd => w' d hd)
      · obtain ⟨t, k, o, rfl⟩ := hd
        exact ⟨Nat.zero_le _, w _ _ ⟨⟨t, k, o, rfl⟩, rfl⟩⟩
    rintro s u ⟨⟨t, k, o, rfl⟩, rfl⟩
    simp only [List.set_cons_succ, List.set_cons_zero]
    have h6 := o.n6
    have hrows : ∀ row ∈ t, row.length ≤ 3 ∧ ∀ x ∈ row, StepOk 6 x := fun row hr => ⟨by rw [o.row row hr]; rcases o.kk with h | h <;> omega, fun x hx => tab_step o hr hx⟩
    refine q_for (ds := t.map eRow) (fun ql w => w) ?_
    refine ln_loop t [] _ _ _ hrows (by simp; omega) fun x5 x6 x14 => ?_
    rw [List.nil_append]
    dsimp only
    refine q_set (d := .str (wrT t)) (fun qd w => ?_) ?_
    · refine q_call (ss := [.im (eMac C t)]) (fun qa w' => q_ac (d := eMac C t) (fun q w2 => ?_) w') (ret_write o _ w)
      show m_check_table [.im (eTab t)] _
      exact ret_check_table o _ w2
    simp only [List.set_cons_succ, List.set_cons_zero]
    refine q_frz rfl ?_
    simp only [List.set_cons_succ, List.set_cons_zero]
    have hgood : ∀ l ∈ t.map rowS, GoodS 200 l := fun l hl => by
      obtain ⟨r, hr, rfl⟩ := List.mem_map.mp hl
      exact (row_words (hrows r hr).2 (hrows r hr).1).2
    have hwords : (t.map rowS).map wordsOf = t.map wordsR := by
      rw [List.map_map]
      exact List.map_congr_left fun r hr => (row_words (hrows r hr).2 (hrows r hr).1).1
    have sums : ∀ {Ls : List Str}, Ls.length ≤ 6 → (∀ l ∈ Ls, GoodS 200 l) → sumL Ls ≤ 16000000 := fun {Ls} h1 h2 => by
      rw [sumL_eq]
      have h3 : (Ls.map (·.length)).sum ≤ Ls.length * 200 := sum_le fun w hw => (h2 w hw).1
      have : Ls.length * 200 ≤ 6 * 200 := Nat.mul_le_mul_right _ h1
      omega
    refine q_skip (fun qb w => ?_) ?_
    · refine q_call (ss := [.im (.str (wrT t)), .im (.str (wrT t))]) (fun qa w' => ?_) (ret_alike 8 (.str (wrT t)) (wrT_lay o) _ w)
      exact q_ac (d := .str (wrT t)) (fun q w => w) (q_ac (d := .str (wrT t)) (fun q w2 => q_join (ws := t.map rowS) (by decide +kernel) (fun q w => w) (sums (by simpa using h6) hgood) w2) w')
    refine q_own (ds := ([] : List Str).map D.str) (fun ql w => ⟨Nat.zero_le _, w⟩) ?_
    simp only [List.set_cons_succ, List.set_cons_zero]
    refine q_frzI rfl ?_
    refine q_for (ds := (t.map rowS).map D.str) (fun ql w => w) ?_
    refine wd_loop t [] _ _ _ hrows (by simp; omega) (fun l hl => by cases hl) fun Ws x9 x10 x11 hW hgW => ?_
    rw [List.map_nil, List.nil_append] at hW
    have hWl : Ws.length = t.length := by have := congrArg List.length hW; simpa using this
    dsimp only
    refine q_frz rfl ?_
    simp only [List.set_cons_succ, List.set_cons_zero]
    refine q_for1 (ds := [.str (wrT t), .str (Txt.join "\n" Ws)]) (fun ql w => ?_) ?_
    · rw [x_ilst, x_dlst, x_lcons]
      refine q_var rfl ?_
      rw [x_lcons]
      refine q_join (ws := Ws) (by decide +kernel) (fun q w => w) (sums (by omega) hgW) ?_
      exact ⟨small (by simp), w⟩
    rw [fordo_cons]
    refine rb_step o hwords hgood fun x13 => ?_
    dsimp only
    rw [fordo_cons]
    refine rb_step o hW hgW fun x13 => ?_
    exact hnx _ ⟨_, _, _, _, _, _, _, _, _, _, _, _, _, rfl⟩

end G

set_option Elab.async false
set_option linter.all false
open PySem PySem.W PyProof.Rows
set_option maxRecDepth 100000 in
set_option maxHeartbeats 0 in
theorem PySem.Challenge.cw_whichstand_k12_whole_texts_holds : PySem.Challenge.rw_whichstand_k12_whole_texts.Holds := by
  w_on; o_law; k_head; (case hw => w_witness2)
  k_fill
  refine G.walk (l := PySem.Challenge.rw_whichstand_k12_whole_texts) rfl rfl (fun w h Y => PySem.W.kIn_of Y) ?F
  case F =>
    intro w mg fa h KX Gn hmg
    refine' G.all_mk KX Gn hmg G.good ?a0 ?l0 ?c0 ?k0 ?a1 ?l1 ?c1 ?k1 ?a2 ?l2 ?c2 ?k2 ?a3 ?l3 ?c3 ?k3 ?a4 ?l4 ?c4 ?k4 ?a5 ?l5 ?c5 ?k5 ?a6 ?l6 ?c6 ?k6 ?a7 ?l7 ?c7 ?k7 ?a8 ?l8 ?c8 ?k8 ?a9 ?l9 ?c9 ?k9 ?a10 ?l10 ?c10 ?k10 ?a11 ?l11 ?c11 ?k11 ?a12 ?l12 ?c12 ?k12 ?a13 ?l13 ?c13 ?k13 ?aC ?aI ?iI ?lI ?cI ?kI ?pg ?hd ?po ?sa ?mk ?kc ?nR ?pa_table ?pb_table ?pc_table ?pd_table ?pl_table ?pe_table ?pk_table ?qa_eq ?qi_eq ?ql_eq ?qc_eq ?qk_eq ?qn ?im0 ?im1 ?im2 ?im3 ?im4 ?im5 ?im6 ?im7 ?nb ?z_len ?z_range ?z_int ?z_bool ?z_str ?z_tuple ?z_list ?z_dict ?z_set ?z_max ?z_min ?z_all ?z_any ?z_isinstance ?z_enumerate ?z_sorted ?z_zip ?z_sum ?g_LACKS ?g_HEAD ?g_MOST_WRITTEN ?g_MOST_STANDS ?g_LETTERS ?h_LETTERS
    (case a0 => k_is); (case l0 => k_is); (case c0 => k_is); (case k0 => k_is); (case a1 => k_is); (case l1 => k_is); (case c1 => k_is); (case k1 => k_is); (case a2 => k_is); (case l2 => k_is); (case c2 => k_is); (case k2 => k_is); (case a3 => k_is); (case l3 => k_is); (case c3 => k_is); (case k3 => k_is); (case a4 => k_is); (case l4 => k_is); (case c4 => k_is); (case k4 => k_is); (case a5 => k_is); (case l5 => k_is); (case c5 => k_is); (case k5 => k_is); (case a6 => k_is); (case l6 => k_is); (case c6 => k_is); (case k6 => k_is); (case a7 => k_is); (case l7 => k_is); (case c7 => k_is); (case k7 => k_is); (case a8 => k_is); (case l8 => k_is); (case c8 => k_is); (case k8 => k_is); (case a9 => k_is); (case l9 => k_is); (case c9 => k_is); (case k9 => k_is); (case a10 => k_is); (case l10 => k_is); (case c10 => k_is); (case k10 => k_is); (case a11 => k_is); (case l11 => k_is); (case c11 => k_is); (case k11 => k_is); (case a12 => k_is); (case l12 => k_is); (case c12 => k_is); (case k12 => k_is); (case a13 => k_is); (case l13 => k_is); (case c13 => k_is); (case k13 => k_is); (case aC => k_is); (case aI => k_is); (case iI => k_is); (case lI => k_is); (case cI => k_is); (case kI => k_is); (case pg => k_is); (case hd => k_is); (case po => k_is); (case sa => k_is); (case mk => k_is); (case kc => k_is); (case nR => k_is); (case pa_table => k_is); (case pb_table => k_is); (case pc_table => k_is); (case pd_table => k_is); (case pl_table => k_is); (case pe_table => k_is); (case pk_table => k_is); (case qa_eq => k_is); (case qi_eq => k_is); (case ql_eq => k_is); (case qc_eq => k_is); (case qk_eq => k_is); (case qn => k_is); (case im0 => k_is); (case im1 => k_is); (case im2 => k_is); (case im3 => k_is); (case im4 => k_is); (case im5 => k_is); (case im6 => k_is); (case im7 => k_is); (case nb => k_is); (case z_len => k_is); (case z_range => k_is); (case z_int => k_is); (case z_bool => k_is); (case z_str => k_is); (case z_tuple => k_is); (case z_list => k_is); (case z_dict => k_is); (case z_set => k_is); (case z_max => k_is); (case z_min => k_is); (case z_all => k_is); (case z_any => k_is); (case z_isinstance => k_is); (case z_enumerate => k_is); (case z_sorted => k_is); (case z_zip => k_is); (case z_sum => k_is); (case g_LACKS => k_is); (case g_HEAD => k_is); (case g_MOST_WRITTEN => k_is); (case g_MOST_STANDS => k_is); (case g_LETTERS => k_is); (case h_LETTERS => k_is)

