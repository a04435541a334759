import PyProof.Rows.All
import Wide.All
import OpenK.AllK
import Wide.FinOn
import HandS.ForMost
import HandS.Wide
import HandS.EndBits
import HandS.IsInst
import KE.KDictKeyed
import KE.KDictDisplayH
import HandS.RaiseMore
import HandS.Zip
import KE.KDictList
import HandS.More
import HandS.ListItems
import HandS.Replace
import HandS.Rev
import HandS.TupSets
import KE.KSortTupG
import KE.LtData
import KE.GoesMore
import KE.GoesEnum
import KE.KDictWalk
import HandS.MapSum
import KE.KTupSum
import HandS.DictTup
import KE.SortData
import KE.KDictPairs
import HandS.SortInts
import HandS.Deep
import HandS.TupLen
import HandS.TupAny
import KE.KUnpack
import HandS.Strs
import PySem.Challenge.RW_tranchefall_k57_ring_of_lenders
set_option Elab.async false
set_option linter.all false
set_option maxRecDepth 100000
structure DL.KW where
  F : PySem.W.Frag
  P : PySem.Program
  w : PySem.World
instance : CoeOut DL.KW PySem.W.Frag := ⟨DL.KW.F⟩
abbrev L2.Cx.kw (X : L2.Cx) : DL.KW := ⟨X.K, X.prog, X.w⟩
namespace DL
open PySem PySem.Spec PyProof.Rows L2
abbrev St := L2.St
inductive D where
  | non | bl (b : Bool) | int (i : Int) | str (s : Str) | lst (ds : List D) | tup (ds : List D) | dic (kvs : List (Key × D)) | dit (kvs : List (List Key × D)) | obj (n : Str) (fs : List (Str × D)) | al (a : Addr) | tux (ds : List D) | din (kvs : List (NestedKey × D))
inductive T where
  | p (d : D) | lst (ts : List T) | tup (ts : List T) | dic (kvs : List (Key × T)) | dit (kvs : List (List Key × T)) | obj (n : Str) (fs : List (Str × T)) | box (a : Addr) (t : T) | al (a : Addr) | din (kvs : List (NestedKey × D))
mutual
def T.toD : T → D
  | .p d => d
  | .lst ts => .lst (T.toDs ts)
  | .tup ts => .tup (T.toDs ts)
  | .dic kvs => .dic (T.toKs kvs)
  | .dit kvs => .dit (T.toKt kvs)
  | .obj n fs => .obj n (T.toKf fs)
  | .box _ t => t.toD
  | .al a => .al a
  | .din kvs => .din kvs
def T.toDs : List T → List D
  | [] => []
  | t :: ts => t.toD :: T.toDs ts
def T.toKs : List (Key × T) → List (Key × D)
  | [] => []
  | (k, t) :: r => (k, t.toD) :: T.toKs r
def T.toKt : List (List Key × T) → List (List Key × D)
  | [] => []
  | (k, t) :: r => (k, t.toD) :: T.toKt r
def T.toKf : List (Str × T) → List (Str × D)
  | [] => []
  | (k, t) :: r => (k, t.toD) :: T.toKf r
end
theorem toDs_map : ∀ ts : List T, T.toDs ts = ts.map T.toD
  | [] => rfl
  | t :: ts => by rw [T.toDs, toDs_map ts]; rfl
theorem toDs_p (ds : List D) : T.toDs (ds.map T.p) = ds := by
  rw [toDs_map, List.map_map]
  show ds.map (fun d => (T.p d).toD) = ds
  simp [T.toD]
def Fix (u : HO) : Prop := (∃ xs, u = .tup xs) ∨ ∃ o xs, u = .frz o (.tup xs)
theorem Fix.t {xs : List V} : Fix (.tup xs) := .inl ⟨xs, rfl⟩
theorem Fix.f {o : Obj} {xs : List V} : Fix (.frz o (.tup xs)) := .inr ⟨o, xs, rfl⟩
def ClsN (K : PySem.W.Frag) (n : Str) (C : Addr) : Prop := PySem.W.nsIn K mainGlobals n = some (some (.ref C))
mutual
def NkV (G : Hp) : NestedKey → V → Prop
  | .none, v => v = .non
  | .num i, v => v = .int i ∨ ∃ b : Bool, v = .bl b ∧ i = if b = true then 1 else 0
  | .text s, v => v = .str s
  | .tup ks, v => ∃ a vs, v = .ref a ∧ Rd G a (.tup vs) ∧ NkVs G ks vs
def NkVs (G : Hp) : List NestedKey → List V → Prop
  | [], vs => vs = []
  | k :: ks, vs => ∃ v r, vs = v :: r ∧ NkV G k v ∧ NkVs G ks r
end
def nOk (P : Program) (w : World) (a : Addr) (ws : List (NestedKey × Addr × V)) (h : Heap) : Prop := ws.length ≤ sizeLine ∧ (a == sysModules) = false ∧ ∃ xs : List (NestedKey × Addr × Value),
  Paired (fun (p : NestedKey × Addr × V) (q : NestedKey × Addr × Value) => p.1 = q.1 ∧ p.2.1 = q.2.1 ∧ RelV p.2.2 q.2.2) ws xs ∧
  ∃ o es ep, h.get? a = some o ∧ o.ExactDict ∧ o.data = .dict es ep ∧ es.toList = xs.map (entryOfKey (nestedKind P w)) ∧ (xs.map (·.1)).Nodup
def nHO (K : KW) (a : Addr) (ws : List (NestedKey × Addr × V)) : HO := .ext (nOk K.P K.w a ws)
mutual
def RpD (K : KW) (G : Hp) : D → V → Prop
  | .non, v => v = .non
  | .bl b, v => v = .bl b
  | .int i, v => v = .int i
  | .str s, v => v = .str s
  | .lst ds, v => ∃ a vs, v = .ref a ∧ Rd G a (.lst vs) ∧ RpDs K G ds vs
  | .tup ds, v => ∃ a vs, v = .ref a ∧ G a = some (.tup vs) ∧ RpDs K G ds vs
  | .dic kvs, v => ∃ a ws, v = .ref a ∧ Rd G a (.dK ws) ∧ RpKs K G kvs ws
  | .dit kvs, v => ∃ a ws, v = .ref a ∧ Rd G a (.dT ws) ∧ RpKt K G kvs ws
  | .obj n fs, v => ∃ a C dx ws, v = .ref a ∧ ClsN K n C ∧ G a = some (.ins C dx ws) ∧ RpKf K G fs ws
  | .al a, v => a ≠ 0 → v = .ref (a - 1)
  | .tux ds, v => ∃ a o vs, v = .ref a ∧ G a = some (.frz o (.tup vs)) ∧ o.dict = none ∧ RpDs K G ds vs
  | .din kvs, v => ∃ a ws, v = .ref a ∧ Rd G a (nHO K a ws) ∧ RpKn K G kvs ws
def RpDs (K : KW) (G : Hp) : List D → List V → Prop
  | [], vs => vs = []
  | d :: ds, vs => ∃ v r, vs = v :: r ∧ RpD K G d v ∧ RpDs K G ds r
def RpKs (K : KW) (G : Hp) : List (Key × D) → List (Key × V) → Prop
  | [], vs => vs = []
  | (k, d) :: ds, vs => ∃ v r, vs = (k, v) :: r ∧ RpD K G d v ∧ RpKs K G ds r
def RpKt (K : KW) (G : Hp) : List (List Key × D) → List (List Key × V) → Prop
  | [], vs => vs = []
  | (k, d) :: ds, vs => ∃ v r, vs = (k, v) :: r ∧ RpD K G d v ∧ RpKt K G ds r
def RpKf (K : KW) (G : Hp) : List (Str × D) → List (Str × V) → Prop
  | [], vs => vs = []
  | (k, d) :: ds, vs => ∃ v r, vs = (k, v) :: r ∧ RpD K G d v ∧ RpKf K G ds r
def RpKn (K : KW) (G : Hp) : List (NestedKey × D) → List (NestedKey × Addr × V) → Prop
  | [], vs => vs = []
  | (k, d) :: ds, vs => ∃ b v r, vs = (k, b, v) :: r ∧ k.depth ≤ 8 ∧ NkV G k (.ref b) ∧ RpD K G d v ∧ RpKn K G ds r
end
theorem Same.rd {H H' : Hp} {a : Addr} {u : HO} (e : Same H H') (h : Rd H a u) : Rd H' a u := by
  rcases h with h | ⟨o, h⟩
  · exact .inl (e _ _ h)
  · exact .inr ⟨o, e _ _ h⟩
theorem tup_seq {K : PySem.W.Frag} {G H : Hp} {a : Addr} {xs : List V} (s : Same G H) (h : G a = some (.tup xs)) : SqT K H a xs := .inl (.inl (s a _ h))
theorem tup_sq {K : PySem.W.Frag} {G : Hp} {a : Addr} {xs : List V} (h : G a = some (.tup xs)) : SqT K G a xs := .inl (.inl h)
theorem Same.sqT {K : PySem.W.Frag} {H H' : Hp} {a : Addr} {xs : List V} (e : Same H H') (h : SqT K H a xs) : SqT K H' a xs := by
  rcases h with (h | ⟨o, h⟩) | h
  · exact .inl (.inl (e _ _ h))
  · exact .inl (.inr ⟨o, e _ _ h⟩)
  · exact .inr h
mutual
theorem NkV.mono {G G' : Hp} (e : Same G G') : ∀ (k : NestedKey) {v : V}, NkV G k v → NkV G' k v
  | .none, _, h => h
  | .num _, _, h => h
  | .text _, _, h => h
  | .tup ks, _, ⟨a, vs, h1, h2, h3⟩ => ⟨a, vs, h1, Same.rd e h2, NkVs.mono e ks h3⟩
theorem NkVs.mono {G G' : Hp} (e : Same G G') : ∀ (ks : List NestedKey) {vs : List V}, NkVs G ks vs → NkVs G' ks vs
  | [], _, h => h
  | k :: ks, _, ⟨v, r, h1, h2, h3⟩ => ⟨v, r, h1, NkV.mono e k h2, NkVs.mono e ks h3⟩
end
section
variable {K : KW} {G G' H H' : Hp}
mutual
theorem RpD.mono (e : Same G G') : ∀ (d : D) {v : V}, RpD K G d v → RpD K G' d v
  | .non, _, h => h
  | .bl _, _, h => h
  | .int _, _, h => h
  | .str _, _, h => h
  | .lst ds, _, ⟨a, vs, h1, h2, h3⟩ => ⟨a, vs, h1, Same.rd e h2, RpDs.mono e ds h3⟩
  | .tup ds, _, ⟨a, vs, h1, h2, h3⟩ => ⟨a, vs, h1, e a _ h2, RpDs.mono e ds h3⟩
  | .dic kvs, _, ⟨a, ws, h1, h2, h3⟩ => ⟨a, ws, h1, Same.rd e h2, RpKs.mono e kvs h3⟩
  | .dit kvs, _, ⟨a, ws, h1, h2, h3⟩ => ⟨a, ws, h1, Same.rd e h2, RpKt.mono e kvs h3⟩
  | .obj n fs, _, ⟨a, C, dx, ws, h1, h2, h3, h4⟩ => ⟨a, C, dx, ws, h1, h2, e _ _ h3, RpKf.mono e fs h4⟩
  | .al _, _, h => h
  | .tux ds, _, ⟨a, o, vs, h1, h2, h4, h3⟩ => ⟨a, o, vs, h1, e a _ h2, h4, RpDs.mono e ds h3⟩
  | .din kvs, _, ⟨a, ws, h1, h2, h3⟩ => ⟨a, ws, h1, Same.rd e h2, RpKn.mono e kvs h3⟩
theorem RpDs.mono (e : Same G G') : ∀ (ds : List D) {vs : List V}, RpDs K G ds vs → RpDs K G' ds vs
  | [], _, h => h
  | d :: ds, _, ⟨v, r, h1, h2, h3⟩ => ⟨v, r, h1, RpD.mono e d h2, RpDs.mono e ds h3⟩
theorem RpKs.mono (e : Same G G') : ∀ (ds : List (Key × D)) {vs : List (Key × V)}, RpKs K G ds vs → RpKs K G' ds vs
  | [], _, h => h
  | (k, d) :: ds, _, ⟨v, r, h1, h2, h3⟩ => ⟨v, r, h1, RpD.mono e d h2, RpKs.mono e ds h3⟩
theorem RpKt.mono (e : Same G G') : ∀ (ds : List (List Key × D)) {vs : List (List Key × V)}, RpKt K G ds vs → RpKt K G' ds vs
  | [], _, h => h
  | (k, d) :: ds, _, ⟨v, r, h1, h2, h3⟩ => ⟨v, r, h1, RpD.mono e d h2, RpKt.mono e ds h3⟩
theorem RpKf.mono (e : Same G G') : ∀ (ds : List (Str × D)) {vs : List (Str × V)}, RpKf K G ds vs → RpKf K G' ds vs
  | [], _, h => h
  | (k, d) :: ds, _, ⟨v, r, h1, h2, h3⟩ => ⟨v, r, h1, RpD.mono e d h2, RpKf.mono e ds h3⟩
theorem RpKn.mono (e : Same G G') : ∀ (ds : List (NestedKey × D)) {vs : List (NestedKey × Addr × V)}, RpKn K G ds vs → RpKn K G' ds vs
  | [], _, h => h
  | (k, d) :: ds, _, ⟨b, v, r, h1, h0, h4, h2, h3⟩ => ⟨b, v, r, h1, h0, NkV.mono e k h4, RpD.mono e d h2, RpKn.mono e ds h3⟩
end
theorem RpDs.len : ∀ {ds : List D} {vs : List V}, RpDs K G ds vs → vs.length = ds.length
  | [], _, h => by rw [show _ = _ from h]; rfl
  | d :: ds, _, ⟨v, r, h1, h2, h3⟩ => by rw [h1, List.length_cons, List.length_cons, RpDs.len h3]
theorem RpDs.get : ∀ {ds : List D} {vs : List V} {i : Nat} {d : D}, RpDs K G ds vs → ds[i]? = some d → ∃ v, vs[i]? = some v ∧ RpD K G d v
  | [], _, _, _, _, e => by simp at e
  | d :: ds, _, 0, d', ⟨v, r, h1, h2, h3⟩, e => by
    simp at e; subst e; subst h1; exact ⟨v, rfl, h2⟩
  | d :: ds, _, i + 1, d', ⟨v, r, h1, h2, h3⟩, e => by
    subst h1
    obtain ⟨u, h4, h5⟩ := RpDs.get (i := i) h3 (by simpa using e)
    exact ⟨u, by simpa using h4, h5⟩
theorem RpDs.append : ∀ {ds es : List D} {vs ws : List V}, RpDs K G ds vs → RpDs K G es ws → RpDs K G (ds ++ es) (vs ++ ws)
  | [], _, _, _, h, h' => by rw [show _ = _ from h]; exact h'
  | d :: ds, _, _, _, ⟨v, r, h1, h2, h3⟩, h' => by
    subst h1
    exact ⟨v, r ++ _, rfl, h2, RpDs.append h3 h'⟩
theorem RpDs.take : ∀ {ds : List D} {vs : List V} (n : Nat), RpDs K G ds vs → RpDs K G (ds.take n) (vs.take n)
  | ds, vs, 0, _ => by simp [RpDs]
  | [], _, n + 1, h => by rw [show _ = _ from h]; simp [RpDs]
  | d :: ds, _, n + 1, ⟨v, r, h1, h2, h3⟩ => by
    subst h1
    exact ⟨v, r.take n, rfl, h2, RpDs.take n h3⟩
theorem RpDs.drop : ∀ {ds : List D} {vs : List V} (n : Nat), RpDs K G ds vs → RpDs K G (ds.drop n) (vs.drop n)
  | ds, vs, 0, h => by simpa using h
  | [], _, n + 1, h => by rw [show _ = _ from h]; simp [RpDs]
  | d :: ds, _, n + 1, ⟨v, r, h1, h2, h3⟩ => by
    subst h1
    simpa using RpDs.drop n h3
mutual
def Rp (K : KW) (G H : Hp) : T → V → List Addr → Prop
  | .p d, v, o => RpD K G d v ∧ o = []
  | .lst ts, v, o => ∃ a vs o', v = .ref a ∧ H a = some (.lst vs) ∧ RpTs K G H ts vs o' ∧ o = a :: o'
  | .tup ts, v, o => ∃ a vs, v = .ref a ∧ G a = some (.tup vs) ∧ RpTs K G H ts vs o
  | .dic kvs, v, o => ∃ a ws o', v = .ref a ∧ H a = some (.dK ws) ∧ RpTk K G H kvs ws o' ∧ o = a :: o'
  | .dit kvs, v, o => ∃ a ws o', v = .ref a ∧ H a = some (.dT ws) ∧ RpTt K G H kvs ws o' ∧ o = a :: o'
  | .obj n fs, v, o => ∃ a C dx ws o', v = .ref a ∧ ClsN K n C ∧ H a = some (.ins C dx ws) ∧ RpTf K G H fs ws o' ∧ o = a :: o'
  | .box a t, v, o => v = .ref a ∧ Rp K G H t v o
  | .al a, v, o => (a ≠ 0 → v = .ref (a - 1)) ∧ o = []
  | .din kvs, v, o => ∃ a ws, v = .ref a ∧ H a = some (nHO K a ws) ∧ RpKn K G kvs ws ∧ o = [a]
def RpTs (K : KW) (G H : Hp) : List T → List V → List Addr → Prop
  | [], vs, o => vs = [] ∧ o = []
  | t :: ts, vs, o => ∃ v r o1 o2, vs = v :: r ∧ Rp K G H t v o1 ∧ RpTs K G H ts r o2 ∧ o = o1 ++ o2
def RpTk (K : KW) (G H : Hp) : List (Key × T) → List (Key × V) → List Addr → Prop
  | [], vs, o => vs = [] ∧ o = []
  | (k, t) :: ts, vs, o => ∃ v r o1 o2, vs = (k, v) :: r ∧ Rp K G H t v o1 ∧ RpTk K G H ts r o2 ∧ o = o1 ++ o2
def RpTt (K : KW) (G H : Hp) : List (List Key × T) → List (List Key × V) → List Addr → Prop
  | [], vs, o => vs = [] ∧ o = []
  | (k, t) :: ts, vs, o => ∃ v r o1 o2, vs = (k, v) :: r ∧ Rp K G H t v o1 ∧ RpTt K G H ts r o2 ∧ o = o1 ++ o2
def RpTf (K : KW) (G H : Hp) : List (Str × T) → List (Str × V) → List Addr → Prop
  | [], vs, o => vs = [] ∧ o = []
  | (k, t) :: ts, vs, o => ∃ v r o1 o2, vs = (k, v) :: r ∧ Rp K G H t v o1 ∧ RpTf K G H ts r o2 ∧ o = o1 ++ o2
end
mutual
theorem Rp.mono (e : Same G G') : ∀ (t : T) {v : V} {o : List Addr}, (∀ a ∈ o, H' a = H a) → Rp K G H t v o → Rp K G' H' t v o
  | .p d, _, _, _, ⟨h1, h2⟩ => ⟨RpD.mono e d h1, h2⟩
  | .lst ts, _, _, k, ⟨a, vs, o', h1, h2, h3, h4⟩ => ⟨a, vs, o', h1, by rw [k a (by rw [h4]; simp)]; exact h2, RpTs.mono e ts (fun b hb => k b (by rw [h4]; simp [hb])) h3, h4⟩
  | .tup ts, _, _, k, ⟨a, vs, h1, h2, h3⟩ => ⟨a, vs, h1, e a _ h2, RpTs.mono e ts k h3⟩
  | .dic kvs, _, _, k, ⟨a, ws, o', h1, h2, h3, h4⟩ => ⟨a, ws, o', h1, by rw [k a (by rw [h4]; simp)]; exact h2, RpTk.mono e kvs (fun b hb => k b (by rw [h4]; simp [hb])) h3, h4⟩
  | .dit kvs, _, _, k, ⟨a, ws, o', h1, h2, h3, h4⟩ => ⟨a, ws, o', h1, by rw [k a (by rw [h4]; simp)]; exact h2, RpTt.mono e kvs (fun b hb => k b (by rw [h4]; simp [hb])) h3, h4⟩
  | .obj n fs, _, _, k, ⟨a, C, dx, ws, o', h1, h0, h2, h3, h4⟩ => ⟨a, C, dx, ws, o', h1, h0, by rw [k a (by rw [h4]; simp)]; exact h2, RpTf.mono e fs (fun b hb => k b (by rw [h4]; simp [hb])) h3, h4⟩
  | .box a t, _, _, k, ⟨h1, h2⟩ => ⟨h1, Rp.mono e t k h2⟩
  | .al a, _, _, _, h => h
  | .din kvs, _, _, k, ⟨a, ws, h1, h2, h3, h4⟩ => ⟨a, ws, h1, by rw [k a (by rw [h4]; simp)]; exact h2, RpKn.mono e kvs h3, h4⟩
theorem RpTs.mono (e : Same G G') : ∀ (ts : List T) {vs : List V} {o : List Addr}, (∀ a ∈ o, H' a = H a) → RpTs K G H ts vs o → RpTs K G' H' ts vs o
  | [], _, _, _, h => h
  | t :: ts, _, _, k, ⟨v, r, o1, o2, h1, h2, h3, h4⟩ => ⟨v, r, o1, o2, h1, Rp.mono e t (fun b hb => k b (by rw [h4]; simp [hb])) h2, RpTs.mono e ts (fun b hb => k b (by rw [h4]; simp [hb])) h3, h4⟩
theorem RpTk.mono (e : Same G G') : ∀ (ts : List (Key × T)) {vs : List (Key × V)} {o : List Addr}, (∀ a ∈ o, H' a = H a) → RpTk K G H ts vs o → RpTk K G' H' ts vs o
  | [], _, _, _, h => h
  | (_, t) :: ts, _, _, k, ⟨v, r, o1, o2, h1, h2, h3, h4⟩ => ⟨v, r, o1, o2, h1, Rp.mono e t (fun b hb => k b (by rw [h4]; simp [hb])) h2, RpTk.mono e ts (fun b hb => k b (by rw [h4]; simp [hb])) h3, h4⟩
theorem RpTt.mono (e : Same G G') : ∀ (ts : List (List Key × T)) {vs : List (List Key × V)} {o : List Addr}, (∀ a ∈ o, H' a = H a) → RpTt K G H ts vs o → RpTt K G' H' ts vs o
  | [], _, _, _, h => h
  | (_, t) :: ts, _, _, k, ⟨v, r, o1, o2, h1, h2, h3, h4⟩ => ⟨v, r, o1, o2, h1, Rp.mono e t (fun b hb => k b (by rw [h4]; simp [hb])) h2, RpTt.mono e ts (fun b hb => k b (by rw [h4]; simp [hb])) h3, h4⟩
theorem RpTf.mono (e : Same G G') : ∀ (ts : List (Str × T)) {vs : List (Str × V)} {o : List Addr}, (∀ a ∈ o, H' a = H a) → RpTf K G H ts vs o → RpTf K G' H' ts vs o
  | [], _, _, _, h => h
  | (_, t) :: ts, _, _, k, ⟨v, r, o1, o2, h1, h2, h3, h4⟩ => ⟨v, r, o1, o2, h1, Rp.mono e t (fun b hb => k b (by rw [h4]; simp [hb])) h2, RpTf.mono e ts (fun b hb => k b (by rw [h4]; simp [hb])) h3, h4⟩
end
mutual
theorem Rp.flat {o : List Addr} (e : Same G G') (k : ∀ a ∈ o, G' a = H a) : ∀ (t : T) {v : V}, Rp K G H t v o → RpD K G' t.toD v
  | .p d, _, ⟨h1, h2⟩ => RpD.mono e d h1
  | .lst ts, _, ⟨a, vs, o', h1, h2, h3, h4⟩ => ⟨a, vs, h1, .inl (by rw [k a (by rw [h4]; simp)]; exact h2), RpTs.flat e (fun b hb => k b (by rw [h4]; simp [hb])) ts h3⟩
  | .tup ts, _, ⟨a, vs, h1, h2, h3⟩ => ⟨a, vs, h1, e a _ h2, RpTs.flat e k ts h3⟩
  | .dic kvs, _, ⟨a, ws, o', h1, h2, h3, h4⟩ => ⟨a, ws, h1, .inl (by rw [k a (by rw [h4]; simp)]; exact h2), RpTk.flat e (fun b hb => k b (by rw [h4]; simp [hb])) kvs h3⟩
  | .dit kvs, _, ⟨a, ws, o', h1, h2, h3, h4⟩ => ⟨a, ws, h1, .inl (by rw [k a (by rw [h4]; simp)]; exact h2), RpTt.flat e (fun b hb => k b (by rw [h4]; simp [hb])) kvs h3⟩
  | .obj n fs, _, ⟨a, C, dx, ws, o', h1, h0, h2, h3, h4⟩ => ⟨a, C, dx, ws, h1, h0, (by rw [k a (by rw [h4]; simp)]; exact h2), RpTf.flat e (fun b hb => k b (by rw [h4]; simp [hb])) fs h3⟩
  | .box a t, _, ⟨h1, h2⟩ => Rp.flat e k t h2
  | .al a, _, ⟨h1, h2⟩ => h1
  | .din kvs, _, ⟨a, ws, h1, h2, h3, h4⟩ => ⟨a, ws, h1, .inl (by rw [k a (by rw [h4]; simp)]; exact h2), RpKn.mono e kvs h3⟩
theorem RpTs.flat {o : List Addr} (e : Same G G') (k : ∀ a ∈ o, G' a = H a) : ∀ (ts : List T) {vs : List V}, RpTs K G H ts vs o → RpDs K G' (T.toDs ts) vs
  | [], _, ⟨h, _⟩ => h
  | t :: ts, _, ⟨v, r, o1, o2, h1, h2, h3, h4⟩ => ⟨v, r, h1, Rp.flat e (fun b hb => k b (by rw [h4]; simp [hb])) t h2, RpTs.flat e (fun b hb => k b (by rw [h4]; simp [hb])) ts h3⟩
theorem RpTk.flat {o : List Addr} (e : Same G G') (k : ∀ a ∈ o, G' a = H a) : ∀ (ts : List (Key × T)) {vs : List (Key × V)}, RpTk K G H ts vs o → RpKs K G' (T.toKs ts) vs
  | [], _, ⟨h, _⟩ => h
  | (_, t) :: ts, _, ⟨v, r, o1, o2, h1, h2, h3, h4⟩ => ⟨v, r, h1, Rp.flat e (fun b hb => k b (by rw [h4]; simp [hb])) t h2, RpTk.flat e (fun b hb => k b (by rw [h4]; simp [hb])) ts h3⟩
theorem RpTt.flat {o : List Addr} (e : Same G G') (k : ∀ a ∈ o, G' a = H a) : ∀ (ts : List (List Key × T)) {vs : List (List Key × V)}, RpTt K G H ts vs o → RpKt K G' (T.toKt ts) vs
  | [], _, ⟨h, _⟩ => h
  | (_, t) :: ts, _, ⟨v, r, o1, o2, h1, h2, h3, h4⟩ => ⟨v, r, h1, Rp.flat e (fun b hb => k b (by rw [h4]; simp [hb])) t h2, RpTt.flat e (fun b hb => k b (by rw [h4]; simp [hb])) ts h3⟩
theorem RpTf.flat {o : List Addr} (e : Same G G') (k : ∀ a ∈ o, G' a = H a) : ∀ (ts : List (Str × T)) {vs : List (Str × V)}, RpTf K G H ts vs o → RpKf K G' (T.toKf ts) vs
  | [], _, ⟨h, _⟩ => h
  | (_, t) :: ts, _, ⟨v, r, o1, o2, h1, h2, h3, h4⟩ => ⟨v, r, h1, Rp.flat e (fun b hb => k b (by rw [h4]; simp [hb])) t h2, RpTf.flat e (fun b hb => k b (by rw [h4]; simp [hb])) ts h3⟩
end
mutual
theorem Rp.there : ∀ (t : T) {v : V} {o : List Addr}, Rp K G H t v o → ∀ a ∈ o, ∃ u, H a = some u ∧ ¬ Fix u
  | .p d, _, _, ⟨h1, h2⟩, b, hb => by rw [h2] at hb; cases hb
  | .lst ts, _, _, ⟨a, vs, o', h1, h2, h3, h4⟩, b, hb => by
    rw [h4] at hb
    rcases List.mem_cons.mp hb with e | hb
    · rw [e]; exact ⟨_, h2, fun z => by rcases z with ⟨_, z⟩ | ⟨_, _, z⟩ <;> cases z⟩
    · exact RpTs.there ts h3 b hb
  | .tup ts, _, _, ⟨a, vs, h1, h2, h3⟩, b, hb => RpTs.there ts h3 b hb
  | .dic kvs, _, _, ⟨a, ws, o', h1, h2, h3, h4⟩, b, hb => by
    rw [h4] at hb
    rcases List.mem_cons.mp hb with e | hb
    · rw [e]; exact ⟨_, h2, fun z => by rcases z with ⟨_, z⟩ | ⟨_, _, z⟩ <;> cases z⟩
    · exact RpTk.there kvs h3 b hb
  | .dit kvs, _, _, ⟨a, ws, o', h1, h2, h3, h4⟩, b, hb => by
    rw [h4] at hb
    rcases List.mem_cons.mp hb with e | hb
    · rw [e]; exact ⟨_, h2, fun z => by rcases z with ⟨_, z⟩ | ⟨_, _, z⟩ <;> cases z⟩
    · exact RpTt.there kvs h3 b hb
  | .obj n kvs, _, _, ⟨a, C, dx, ws, o', h1, h0, h2, h3, h4⟩, b, hb => by
    rw [h4] at hb
    rcases List.mem_cons.mp hb with e | hb
    · rw [e]; exact ⟨_, h2, fun z => by rcases z with ⟨_, z⟩ | ⟨_, _, z⟩ <;> cases z⟩
    · exact RpTf.there kvs h3 b hb
  | .box a t, _, _, ⟨h1, h2⟩, b, hb => Rp.there t h2 b hb
  | .al a, _, _, ⟨h1, h2⟩, b, hb => by rw [h2] at hb; cases hb
  | .din kvs, _, _, ⟨a, ws, h1, h2, h3, h4⟩, b, hb => by
    rw [h4] at hb
    rw [List.mem_singleton.mp hb]; exact ⟨_, h2, fun z => by rcases z with ⟨_, z⟩ | ⟨_, _, z⟩ <;> cases z⟩
theorem RpTs.there : ∀ (ts : List T) {vs : List V} {o : List Addr}, RpTs K G H ts vs o → ∀ a ∈ o, ∃ u, H a = some u ∧ ¬ Fix u
  | [], _, _, ⟨_, h⟩, b, hb => by rw [h] at hb; cases hb
  | t :: ts, _, _, ⟨v, r, o1, o2, h1, h2, h3, h4⟩, b, hb => by
    rw [h4] at hb
    rcases List.mem_append.mp hb with hb | hb
    · exact Rp.there t h2 b hb
    · exact RpTs.there ts h3 b hb
theorem RpTk.there : ∀ (ts : List (Key × T)) {vs : List (Key × V)} {o : List Addr}, RpTk K G H ts vs o → ∀ a ∈ o, ∃ u, H a = some u ∧ ¬ Fix u
  | [], _, _, ⟨_, h⟩, b, hb => by rw [h] at hb; cases hb
  | (_, t) :: ts, _, _, ⟨v, r, o1, o2, h1, h2, h3, h4⟩, b, hb => by
    rw [h4] at hb
    rcases List.mem_append.mp hb with hb | hb
    · exact Rp.there t h2 b hb
    · exact RpTk.there ts h3 b hb
theorem RpTt.there : ∀ (ts : List (List Key × T)) {vs : List (List Key × V)} {o : List Addr}, RpTt K G H ts vs o → ∀ a ∈ o, ∃ u, H a = some u ∧ ¬ Fix u
  | [], _, _, ⟨_, h⟩, b, hb => by rw [h] at hb; cases hb
  | (_, t) :: ts, _, _, ⟨v, r, o1, o2, h1, h2, h3, h4⟩, b, hb => by
    rw [h4] at hb
    rcases List.mem_append.mp hb with hb | hb
    · exact Rp.there t h2 b hb
    · exact RpTt.there ts h3 b hb
theorem RpTf.there : ∀ (ts : List (Str × T)) {vs : List (Str × V)} {o : List Addr}, RpTf K G H ts vs o → ∀ a ∈ o, ∃ u, H a = some u ∧ ¬ Fix u
  | [], _, _, ⟨_, h⟩, b, hb => by rw [h] at hb; cases hb
  | (_, t) :: ts, _, _, ⟨v, r, o1, o2, h1, h2, h3, h4⟩, b, hb => by
    rw [h4] at hb
    rcases List.mem_append.mp hb with hb | hb
    · exact Rp.there t h2 b hb
    · exact RpTf.there ts h3 b hb
end
theorem RpTs.len : ∀ {ts : List T} {vs : List V} {o : List Addr}, RpTs K G H ts vs o → vs.length = ts.length
  | [], _, _, ⟨h, _⟩ => by rw [h]; rfl
  | t :: ts, _, _, ⟨v, r, o1, o2, h1, h2, h3, h4⟩ => by rw [h1, List.length_cons, List.length_cons, RpTs.len h3]
theorem RpTs.append : ∀ {ts us : List T} {vs ws : List V} {o o' : List Addr}, RpTs K G H ts vs o → RpTs K G H us ws o' → RpTs K G H (ts ++ us) (vs ++ ws) (o ++ o')
  | [], _, _, _, _, _, ⟨h, h2⟩, h' => by rw [h, h2]; exact h'
  | t :: ts, _, _, _, _, _, ⟨v, r, o1, o2, h1, h2, h3, h4⟩, h' => by
    subst h1; subst h4
    exact ⟨v, r ++ _, o1, o2 ++ _, rfl, h2, RpTs.append h3 h', by simp⟩
theorem rpTs_p : ∀ {ds : List D} {vs : List V}, RpDs K G ds vs → RpTs K G H (ds.map T.p) vs []
  | [], _, h => ⟨h, rfl⟩
  | d :: ds, _, ⟨v, r, h1, h2, h3⟩ => ⟨v, r, [], [], h1, ⟨h2, rfl⟩, rpTs_p h3, rfl⟩
abbrev Env := List (Option T)
def RpE (K : KW) (G H : Hp) : Env → St → List Addr → Prop
  | [], σ, o => σ = [] ∧ o = []
  | none :: es, σ, o => ∃ x r, σ = x :: r ∧ RpE K G H es r o
  | some t :: es, σ, o => ∃ v r o1 o2, σ = some v :: r ∧ Rp K G H t v o1 ∧ RpE K G H es r o2 ∧ o = o1 ++ o2
theorem RpE.mono (e : Same G G') : ∀ (es : Env) {σ : St} {o : List Addr}, (∀ a ∈ o, H' a = H a) → RpE K G H es σ o → RpE K G' H' es σ o
  | [], _, _, _, h => h
  | none :: es, _, _, k, ⟨x, r, h1, h2⟩ => ⟨x, r, h1, RpE.mono e es k h2⟩
  | some t :: es, _, _, k, ⟨v, r, o1, o2, h1, h2, h3, h4⟩ => ⟨v, r, o1, o2, h1, Rp.mono e t (fun b hb => k b (by rw [h4]; simp [hb])) h2, RpE.mono e es (fun b hb => k b (by rw [h4]; simp [hb])) h3, h4⟩
theorem RpE.there : ∀ (es : Env) {σ : St} {o : List Addr}, RpE K G H es σ o → ∀ a ∈ o, ∃ u, H a = some u ∧ ¬ Fix u
  | [], _, _, ⟨_, h⟩, b, hb => by rw [h] at hb; cases hb
  | none :: es, _, _, ⟨x, r, h1, h2⟩, b, hb => RpE.there es h2 b hb
  | some t :: es, _, _, ⟨v, r, o1, o2, h1, h2, h3, h4⟩, b, hb => by
    rw [h4] at hb
    rcases List.mem_append.mp hb with hb | hb
    · exact Rp.there t h2 b hb
    · exact RpE.there es h3 b hb
theorem RpE.len : ∀ {es : Env} {σ : St} {o : List Addr}, RpE K G H es σ o → σ.length = es.length
  | [], _, _, ⟨h, _⟩ => by rw [h]; rfl
  | none :: es, _, _, ⟨x, r, h1, h2⟩ => by rw [h1, List.length_cons, List.length_cons, RpE.len h2]
  | some t :: es, _, _, ⟨v, r, o1, o2, h1, h2, h3, h4⟩ => by rw [h1, List.length_cons, List.length_cons, RpE.len h3]
theorem perm_mid {α : Type} (a b c : List α) : (a ++ (b ++ c)).Perm (b ++ (a ++ c)) := by
  rw [← List.append_assoc, ← List.append_assoc]
  exact List.Perm.append_right _ List.perm_append_comm
theorem RpE.take : ∀ {es : Env} {σ : St} {o : List Addr} {i : Nat} {t : T}, RpE K G H es σ o → es[i]? = some (some t) →
    ∃ v o1 o2, σ[i]? = some (some v) ∧ Rp K G H t v o1 ∧ RpE K G H (es.set i none) σ o2 ∧ o.Perm (o1 ++ o2)
  | [], _, _, _, _, _, e => by simp at e
  | none :: es, _, _, 0, _, _, e => by simp at e
  | none :: es, _, _, i + 1, t, ⟨x, r, h1, h2⟩, e => by
    subst h1
    obtain ⟨v, o1, o2, g1, g2, g3, g4⟩ := RpE.take (i := i) h2 (by simpa using e)
    exact ⟨v, o1, o2, by simpa using g1, g2, ⟨x, r, rfl, g3⟩, g4⟩
  | some u :: es, _, _, 0, t, ⟨v, r, o1, o2, h1, h2, h3, h4⟩, e => by
    subst h1
    simp at e; subst e
    exact ⟨v, o1, o2, rfl, h2, ⟨_, _, rfl, h3⟩, by rw [h4]⟩
  | some u :: es, _, _, i + 1, t, ⟨v, r, o1, o2, h1, h2, h3, h4⟩, e => by
    subst h1
    obtain ⟨w, p1, p2, g1, g2, g3, g4⟩ := RpE.take (i := i) h3 (by simpa using e)
    refine ⟨w, p1, o1 ++ p2, by simpa using g1, g2, ⟨v, r, o1, p2, rfl, h2, g3, rfl⟩, ?_⟩
    rw [h4]
    exact (List.Perm.append_left o1 g4).trans (perm_mid _ _ _)
theorem RpE.put : ∀ {es : Env} {σ : St} {o : List Addr} {i : Nat} {t : T} {v : V} {o1 : List Addr}, RpE K G H es σ o → i < es.length → (∀ u, es[i]? ≠ some (some u)) → Rp K G H t v o1 →
    ∃ o2, RpE K G H (es.set i (some t)) (σ.set i (some v)) o2 ∧ o2.Perm (o1 ++ o)
  | [], _, _, _, _, _, _, _, hl, _, _ => by simp at hl
  | none :: es, _, o, 0, t, v, o1, ⟨x, r, h1, h2⟩, _, _, h => by
    subst h1
    exact ⟨o1 ++ o, ⟨v, r, o1, o, rfl, h, h2, rfl⟩, .refl _⟩
  | none :: es, _, o, i + 1, t, v, o1, ⟨x, r, h1, h2⟩, hl, hn, h => by
    subst h1
    obtain ⟨o2, g1, g2⟩ := RpE.put (i := i) h2 (by simpa using hl) (fun u z => hn u (by simpa using z)) h
    exact ⟨o2, ⟨x, _, rfl, g1⟩, g2⟩
  | some u :: es, _, _, 0, t, v, o1, _, _, hn, _ => absurd rfl (hn u)
  | some u :: es, _, _, i + 1, t, v, o1, ⟨w, r, p1, p2, h1, h2, h3, h4⟩, hl, hn, h => by
    subst h1
    obtain ⟨o2, g1, g2⟩ := RpE.put (i := i) h3 (by simpa using hl) (fun u z => hn u (by simpa using z)) h
    refine ⟨p1 ++ o2, ⟨w, _, p1, o2, rfl, h2, g1, rfl⟩, ?_⟩
    rw [h4]
    exact (List.Perm.append_left p1 g2).trans (perm_mid _ _ _)
theorem RpE.drop {es : Env} {σ : St} {o : List Addr} (i : Nat) (h : RpE K G H es σ o) : ∃ o1 o2, RpE K G H (es.set i none) σ o2 ∧ o.Perm (o1 ++ o2) := by
  by_cases hi : ∃ t, es[i]? = some (some t)
  · obtain ⟨t, ht⟩ := hi
    obtain ⟨v, o1, o2, g1, g2, g3, g4⟩ := h.take ht
    exact ⟨o1, o2, g3, g4⟩
  · refine ⟨[], o, ?_, .refl _⟩
    by_cases hl : i < es.length
    · have e : es[i]? = some none := by
        cases q : es[i]? with
        | none => rw [List.getElem?_eq_none_iff] at q; omega
        | some x =>
          cases x with
          | none => rfl
          | some t => exact absurd ⟨t, q⟩ hi
      have : es.set i none = es := by
        obtain ⟨h1, e2⟩ := List.getElem?_eq_some_iff.mp e
        rw [← e2]
        exact List.set_getElem_self h1
      rw [this]; exact h
    · rw [List.set_eq_of_length_le (by omega)]; exact h
theorem RpE.slot : ∀ {es : Env} {σ : St} {o : List Addr} {i : Nat} (x : Option V), RpE K G H es σ o → (∀ u, es[i]? ≠ some (some u)) → RpE K G H es (σ.set i x) o
  | [], _, _, _, _, ⟨h, h2⟩, _ => by rw [h]; exact ⟨by simp, h2⟩
  | none :: es, _, o, 0, x, ⟨y, r, h1, h2⟩, _ => by subst h1; exact ⟨x, r, rfl, h2⟩
  | none :: es, _, o, i + 1, x, ⟨y, r, h1, h2⟩, hn => by
    subst h1
    exact ⟨y, _, rfl, RpE.slot x h2 fun u z => hn u (by simpa using z)⟩
  | some u :: es, _, _, 0, x, _, hn => absurd rfl (hn u)
  | some u :: es, _, _, i + 1, x, ⟨w, r, p1, p2, h1, h2, h3, h4⟩, hn => by
    subst h1
    exact ⟨w, _, p1, p2, rfl, h2, RpE.slot x h3 (fun u z => hn u (by simpa using z)), h4⟩
end
end DL
namespace DL
open PySem PySem.Spec PyProof.Rows L2
structure St0 (K : KW) (G0 H0 : Hp) (W : List (T × V)) (G H : Hp) (ts : List T) (vs : List V) (env : Env) (σ : St) (ot oe : List Addr) : Prop where
  tmp : RpTs K G H ts vs ot
  env : RpE K G H env σ oe
  nd : (ot ++ oe).Nodup
  fr : ∀ a ∈ ot ++ oe, G a = none ∧ H0 a = none
  g0 : Same G0 G
  gh : Same G H
  h0 : Same H0 H
  nw : ∀ a o, G a = some o → G0 a ≠ none ∨ H0 a = none ∨ Fix o
  vw : ∀ q ∈ W, ∃ o, Rp K G H q.1 q.2 o
def OkS (K : KW) (G0 H0 : Hp) (W : List (T × V)) (H : Hp) (ts : List T) (vs : List V) (env : Env) (σ : St) : Prop :=
  ∃ G ot oe, St0 K G0 H0 W G H ts vs env σ ot oe
section
variable {K : KW} {G0 H0 H : Hp} {W : List (T × V)} {ts : List T} {vs : List V} {env : Env} {σ : St} {t : T} {v : V}
theorem OkS.scal {z : D} {u : V} (S : OkS K G0 H0 W H ts vs env σ) (h : ∀ G, RpD K G z u) : OkS K G0 H0 W H (.p z :: ts) (u :: vs) env σ := by
  obtain ⟨G, ot, oe, s⟩ := S
  exact ⟨G, ot, oe, ⟨u, vs, [], ot, rfl, ⟨h G, rfl⟩, s.tmp, rfl⟩, s.env, s.nd, s.fr, s.g0, s.gh, s.h0, s.nw, s.vw⟩
theorem OkS.pop (S : OkS K G0 H0 W H (t :: ts) (v :: vs) env σ) : OkS K G0 H0 W H ts vs env σ := by
  obtain ⟨G, ot, oe, s⟩ := S
  obtain ⟨u, r, o1, o2, h1, h2, h3, h4⟩ := s.tmp
  cases h1
  subst h4
  have nd := s.nd
  rw [List.append_assoc] at nd
  exact ⟨G, o2, oe, h3, s.env, (List.nodup_append.mp nd).2.1, fun a ha => s.fr a (by rw [List.append_assoc]; exact List.mem_append_right _ ha), s.g0, s.gh, s.h0, s.nw, s.vw⟩
theorem OkS.unview {q : T × V} (S : OkS K G0 H0 (q :: W) H ts vs env σ) : OkS K G0 H0 W H ts vs env σ := by
  obtain ⟨G, ot, oe, s⟩ := S
  exact ⟨G, ot, oe, s.tmp, s.env, s.nd, s.fr, s.g0, s.gh, s.h0, s.nw, fun q hq => s.vw q (List.mem_cons_of_mem _ hq)⟩
theorem OkS.toview (S : OkS K G0 H0 W H (t :: ts) (v :: vs) env σ) : OkS K G0 H0 ((t, v) :: W) H ts vs env σ := by
  have S' := S.pop
  obtain ⟨G, ot, oe, s⟩ := S
  obtain ⟨u, r, o1, o2, h1, h2, h3, h4⟩ := s.tmp
  cases h1
  subst h4
  have nd := s.nd
  rw [List.append_assoc] at nd
  exact ⟨G, o2, oe, h3, s.env, (List.nodup_append.mp nd).2.1, fun a ha => s.fr a (by rw [List.append_assoc]; exact List.mem_append_right _ ha), s.g0, s.gh, s.h0, s.nw, fun q hq => by
    rcases List.mem_cons.mp hq with e | hq
    · subst e; exact ⟨o1, h2⟩
    · exact s.vw q hq⟩
theorem OkS.ofview {d : D} (S : OkS K G0 H0 ((.p d, v) :: W) H ts vs env σ) : OkS K G0 H0 W H (.p d :: ts) (v :: vs) env σ := by
  obtain ⟨G, ot, oe, s⟩ := S
  obtain ⟨o, h, ho⟩ := s.vw (.p d, v) (by simp)
  exact ⟨G, ot, oe, ⟨v, vs, [], ot, rfl, ⟨h, rfl⟩, s.tmp, rfl⟩, s.env, s.nd, s.fr, s.g0, s.gh, s.h0, s.nw, fun q hq => s.vw q (List.mem_cons_of_mem _ hq)⟩
theorem OkS.see (S : OkS K G0 H0 W H ts vs env σ) {q : T × V} (hq : q ∈ W) : RpD K H q.1.toD q.2 := by
  obtain ⟨G, ot, oe, s⟩ := S
  obtain ⟨o, h⟩ := s.vw q hq
  exact h.flat s.gh (fun a _ => rfl) _
theorem OkS.top (S : OkS K G0 H0 W H (t :: ts) (v :: vs) env σ) : RpD K H t.toD v := S.toview.see (by simp : (t, v) ∈ _)
theorem OkS.get {i : Nat} (S : OkS K G0 H0 W H ts vs env σ) (e : env[i]? = some (some t)) : ∃ v, σ[i]? = some (some v) ∧ OkS K G0 H0 W H (t :: ts) (v :: vs) (env.set i none) σ := by
  obtain ⟨G, ot, oe, s⟩ := S
  obtain ⟨v, o1, o2, h1, h2, h3, h4⟩ := s.env.take e
  have pm : (ot ++ oe).Perm ((o1 ++ ot) ++ o2) := by
    rw [List.append_assoc]
    exact (List.Perm.append_left ot h4).trans (perm_mid _ _ _)
  exact ⟨v, h1, G, o1 ++ ot, o2, ⟨v, vs, o1, ot, rfl, h2, s.tmp, rfl⟩, h3, pm.nodup_iff.mp s.nd, fun a ha => s.fr a (pm.mem_iff.mpr ha), s.g0, s.gh, s.h0, s.nw, s.vw⟩
theorem OkS.look {i : Nat} (S : OkS K G0 H0 W H ts vs env σ) (e : env[i]? = some (some t)) : ∃ v, σ[i]? = some (some v) ∧ OkS K G0 H0 ((t, v) :: W) H ts vs env σ := by
  obtain ⟨G, ot, oe, s⟩ := S
  obtain ⟨v, o1, o2, h1, h2, h3, h4⟩ := s.env.take e
  exact ⟨v, h1, G, ot, oe, s.tmp, s.env, s.nd, s.fr, s.g0, s.gh, s.h0, s.nw, fun q hq => by
    rcases List.mem_cons.mp hq with e | hq
    · subst e; exact ⟨o1, h2⟩
    · exact s.vw q hq⟩
theorem OkS.put {i : Nat} (S : OkS K G0 H0 W H (t :: ts) (v :: vs) env σ) (hl : i < env.length) : OkS K G0 H0 W H ts vs (env.set i (some t)) (σ.set i (some v)) := by
  obtain ⟨G, ot, oe, s⟩ := S
  obtain ⟨u, r, o1, o2, h1, h2, h3, h4⟩ := s.tmp
  cases h1
  subst h4
  obtain ⟨p1, p2, g1, g2⟩ := s.env.drop i
  have hn : ∀ u, (env.set i none)[i]? ≠ some (some u) := fun u z => by
    rw [List.getElem?_set_self hl] at z; cases z
  obtain ⟨p3, g3, g4⟩ := g1.put (i := i) (t := t) (v := v) (by simpa using hl) hn h2
  have g5 : (env.set i none).set i (some t) = env.set i (some t) := by simp
  rw [g5] at g3
  have pm : (o1 ++ o2 ++ oe).Perm (p1 ++ (o2 ++ p3)) := by
    have e1 : (o1 ++ o2 ++ oe).Perm (o1 ++ o2 ++ (p1 ++ p2)) := List.Perm.append_left _ g2
    have e2 : (p1 ++ (o2 ++ p3)).Perm (p1 ++ (o2 ++ (o1 ++ p2))) := List.Perm.append_left _ (List.Perm.append_left _ g4)
    refine e1.trans (List.Perm.trans ?_ e2.symm)
    have e3 : (o1 ++ o2 ++ (p1 ++ p2)).Perm (p1 ++ ((o1 ++ o2) ++ p2)) := perm_mid _ _ _
    refine e3.trans (List.Perm.append_left _ ?_)
    rw [List.append_assoc]
    exact perm_mid _ _ _
  have nd2 := pm.nodup_iff.mp s.nd
  exact ⟨G, o2, p3, h3, g3, (List.nodup_append.mp nd2).2.1, fun a ha => s.fr a (pm.mem_iff.mpr (List.mem_append_right _ ha)), s.g0, s.gh, s.h0, s.nw, s.vw⟩
theorem OkS.frz (S : OkS K G0 H0 W H (t :: ts) (v :: vs) env σ) : OkS K G0 H0 W H (.p t.toD :: ts) (v :: vs) env σ := by
  obtain ⟨G, ot, oe, s⟩ := S
  obtain ⟨u, r, o1, o2, h1, h2, h3, h4⟩ := s.tmp
  cases h1
  subst h4
  have nd := s.nd
  rw [List.append_assoc] at nd
  have gn : ∀ a ∈ o1, G a = none := fun a ha => (s.fr a (List.mem_append_left _ (List.mem_append_left _ ha))).1
  have sm : Same G (fun a => if a ∈ o1 then H a else G a) := fun b u e => by
    show (if b ∈ o1 then H b else G b) = _
    by_cases hb : b ∈ o1
    · rw [gn b hb] at e; cases e
    · rw [if_neg hb]; exact e
  refine ⟨fun a => if a ∈ o1 then H a else G a, o2, oe, ⟨v, vs, [], o2, rfl, ⟨h2.flat sm (fun a ha => if_pos ha) _, rfl⟩, h3.mono sm _ (fun _ _ => rfl), rfl⟩, s.env.mono sm _ (fun _ _ => rfl), (List.nodup_append.mp nd).2.1, fun a ha => ?_, ?_, fun b u e => ?_, s.h0, fun b u e => ?_, fun q hq => ?_⟩
  · have hx := s.fr a (by rw [List.append_assoc]; exact List.mem_append_right _ ha)
    refine ⟨?_, hx.2⟩
    show (if a ∈ o1 then H a else G a) = none
    have : a ∉ o1 := fun z => (List.nodup_append.mp nd).2.2 a z a ha rfl
    rw [if_neg this]; exact hx.1
  · intro b u e; exact sm b u (s.g0 b u e)
  · have e' : (if b ∈ o1 then H b else G b) = some u := e
    by_cases hb : b ∈ o1
    · rw [if_pos hb] at e'; exact e'
    · rw [if_neg hb] at e'; exact s.gh b u e'
  · have e' : (if b ∈ o1 then H b else G b) = some u := e
    by_cases hb : b ∈ o1
    · exact .inr (.inl (s.fr b (List.mem_append_left _ (List.mem_append_left _ hb))).2)
    · rw [if_neg hb] at e'; exact s.nw b u e'
  · obtain ⟨o, h⟩ := s.vw q hq
    exact ⟨o, h.mono sm _ fun _ _ => rfl⟩
theorem RpTs.mid {G : Hp} : ∀ {us : List T} {ws : List V} {x : T} {y : V} {o : List Addr}, ws.length = us.length → RpTs K G H (us ++ x :: ts) (ws ++ y :: vs) o → ∃ o', RpTs K G H (x :: (us ++ ts)) (y :: (ws ++ vs)) o' ∧ o.Perm o'
  | [], ws, x, y, o, hl, h => by
    cases ws with
    | nil => exact ⟨o, h, .refl _⟩
    | cons _ _ => simp at hl
  | u :: us, ws, x, y, o, hl, h => by
    cases ws with
    | nil => simp at hl
    | cons w ws =>
      obtain ⟨v, r, o1, o2, h1, h2, h3, h4⟩ := h
      cases h1
      obtain ⟨o', ⟨v', r', p1, p2, g1, g2, g3, g4⟩, pm⟩ := RpTs.mid (us := us) (ws := ws) (by simpa using hl) h3
      cases g1
      refine ⟨p1 ++ (o1 ++ p2), ⟨y, _, p1, o1 ++ p2, rfl, g2, ⟨w, _, o1, p2, rfl, h2, g3, rfl⟩, rfl⟩, ?_⟩
      rw [h4]
      refine (List.Perm.append_left o1 pm).trans ?_
      rw [g4]
      exact perm_mid _ _ _
theorem OkS.mid {us : List T} {ws : List V} {x : T} {y : V} (hl : ws.length = us.length) (S : OkS K G0 H0 W H (us ++ x :: ts) (ws ++ y :: vs) env σ) : OkS K G0 H0 W H (x :: us ++ ts) (y :: ws ++ vs) env σ := by
  obtain ⟨G, ot, oe, s⟩ := S
  obtain ⟨o', h, pm⟩ := s.tmp.mid hl
  have pm2 : (ot ++ oe).Perm (o' ++ oe) := List.Perm.append_right _ pm
  exact ⟨G, o', oe, h, s.env, pm2.nodup_iff.mp s.nd, fun a ha => s.fr a (pm2.mem_iff.mpr ha), s.g0, s.gh, s.h0, s.nw, s.vw⟩
theorem RpTs.split {G : Hp} : ∀ {us : List T} {ws : List V} {o : List Addr}, ws.length = us.length → RpTs K G H (us ++ ts) (ws ++ vs) o → ∃ o1 o2, RpTs K G H us ws o1 ∧ RpTs K G H ts vs o2 ∧ o = o1 ++ o2
  | [], ws, o, hl, h => by
    cases ws with
    | nil => exact ⟨[], o, ⟨rfl, rfl⟩, h, rfl⟩
    | cons _ _ => simp at hl
  | u :: us, ws, o, hl, h => by
    cases ws with
    | nil => simp at hl
    | cons w ws =>
      obtain ⟨v, r, o1, o2, h1, h2, h3, h4⟩ := h
      cases h1
      obtain ⟨p1, p2, g1, g2, g3⟩ := RpTs.split (us := us) (ws := ws) (by simpa using hl) h3
      exact ⟨o1 ++ p1, p2, ⟨w, ws, o1, p1, rfl, h2, g1, rfl⟩, g2, by rw [h4, g3, List.append_assoc]⟩
theorem same_upd {H : Hp} {p : Addr} {o : HO} (h : H p = none) : Same H (upd H p o) := fun b x e => by
  rw [upd_ne (ne_of_none e h)]
  exact e
theorem Same.none {H H' : Hp} {p : Addr} (s : Same H H') (h : H' p = none) : H p = none := by
  cases q : H p with
  | none => rfl
  | some u => rw [s p u q] at h; cases h
theorem OkS.newL {us : List T} {ws : List V} {p : Addr} (hl : ws.length = us.length) (S : OkS K G0 H0 W H (us ++ ts) (ws ++ vs) env σ) (hp : H p = none) : OkS K G0 H0 W (upd H p (.lst ws)) (.lst us :: ts) (.ref p :: vs) env σ := by
  obtain ⟨G, ot, oe, s⟩ := S
  obtain ⟨o1, o2, h1, h2, h3⟩ := s.tmp.split hl
  have gp : G p = none := Same.none s.gh hp
  have ne : ∀ a u, H a = some u → a ≠ p := fun a u e z => by rw [z, hp] at e; cases e
  have k1 : ∀ a ∈ o1, upd H p (.lst ws) a = H a := fun a ha => by
    obtain ⟨u, e, _⟩ := h1.there _ a ha
    exact upd_ne (ne a u e)
  have k2 : ∀ a ∈ o2, upd H p (.lst ws) a = H a := fun a ha => by
    obtain ⟨u, e, _⟩ := h2.there _ a ha
    exact upd_ne (ne a u e)
  have k3 : ∀ a ∈ oe, upd H p (.lst ws) a = H a := fun a ha => by
    obtain ⟨u, e, _⟩ := s.env.there _ a ha
    exact upd_ne (ne a u e)
  have all : ∀ a ∈ ot ++ oe, ∃ u, H a = some u := fun a ha => by
    rcases List.mem_append.mp ha with ha | ha
    · obtain ⟨u, e, _⟩ := s.tmp.there _ a ha; exact ⟨u, e⟩
    · obtain ⟨u, e, _⟩ := s.env.there _ a ha; exact ⟨u, e⟩
  refine ⟨G, p :: o1 ++ o2, oe, ⟨.ref p, vs, p :: o1, o2, rfl, ⟨p, ws, o1, rfl, upd_same, h1.mono (Same.refl _) _ k1, rfl⟩, h2.mono (Same.refl _) _ k2, rfl⟩, s.env.mono (Same.refl _) _ k3, ?_, fun a ha => ?_, s.g0, fun b u e => ?_, fun b u e => ?_, s.nw, fun q hq => ?_⟩
  · rw [List.cons_append, List.cons_append, ← h3]
    refine List.nodup_cons.mpr ⟨fun z => ?_, s.nd⟩
    obtain ⟨u, e⟩ := all p z
    rw [hp] at e; cases e
  · rw [List.cons_append, List.cons_append, ← h3] at ha
    rcases List.mem_cons.mp ha with e | ha
    · subst e; exact ⟨gp, Same.none s.h0 hp⟩
    · exact s.fr a ha
  · rw [upd_ne (ne b u (s.gh b u e))]; exact s.gh b u e
  · rw [upd_ne (ne b u (s.h0 b u e))]; exact s.h0 b u e
  · obtain ⟨o, h⟩ := s.vw q hq
    refine ⟨o, h.mono (Same.refl _) _ fun a ha => ?_⟩
    obtain ⟨u, e, _⟩ := h.there _ a ha
    exact upd_ne (ne a u e)
def allP : List T → Option (List D)
  | [] => some []
  | .p d :: r => (allP r).map (d :: ·)
  | _ :: _ => none
theorem allP_eq : ∀ {us : List T} {ds : List D}, allP us = some ds → us = ds.map T.p
  | [], ds, h => by cases h; rfl
  | .p d :: r, ds, h => by
    unfold allP at h
    cases q : allP r with
    | none => rw [q] at h; cases h
    | some es =>
      rw [q] at h
      cases h
      rw [allP_eq q]; rfl
  | .lst _ :: r, ds, h => by simp [allP] at h
  | .tup _ :: r, ds, h => by simp [allP] at h
  | .dic _ :: r, ds, h => by simp [allP] at h
  | .dit _ :: r, ds, h => by simp [allP] at h
  | .obj _ _ :: r, ds, h => by simp [allP] at h
  | .box _ _ :: r, ds, h => by simp [allP] at h
  | .al _ :: r, ds, h => by simp [allP] at h
  | .din _ :: r, ds, h => by simp [allP] at h
def mkTup (us : List T) : T := match allP us with | some ds => .p (.tup ds) | none => .tup us
theorem rpDs_of {G : Hp} : ∀ {ds : List D} {vs : List V} {o : List Addr}, RpTs K G H (ds.map T.p) vs o → RpDs K G ds vs ∧ o = []
  | [], _, _, ⟨h, h2⟩ => ⟨h, h2⟩
  | d :: ds, _, _, ⟨v, r, o1, o2, h1, h2, h3, h4⟩ => by
    obtain ⟨g1, g2⟩ := rpDs_of h3
    exact ⟨⟨v, r, h1, h2.1, g1⟩, by rw [h4, h2.2, g2]; rfl⟩
theorem OkS.newT {us : List T} {ws : List V} {p : Addr} (hl : ws.length = us.length) (S : OkS K G0 H0 W H (us ++ ts) (ws ++ vs) env σ) (hp : H p = none) : OkS K G0 H0 W (upd H p (.tup ws)) (mkTup us :: ts) (.ref p :: vs) env σ := by
  obtain ⟨G, ot, oe, s⟩ := S
  obtain ⟨o1, o2, h1, h2, h3⟩ := s.tmp.split hl
  have gp : G p = none := Same.none s.gh hp
  have ne : ∀ a u, H a = some u → a ≠ p := fun a u e z => by rw [z, hp] at e; cases e
  have all : ∀ a ∈ ot ++ oe, ∃ u, H a = some u := fun a ha => by
    rcases List.mem_append.mp ha with ha | ha
    · obtain ⟨u, e, _⟩ := s.tmp.there _ a ha; exact ⟨u, e⟩
    · obtain ⟨u, e, _⟩ := s.env.there _ a ha; exact ⟨u, e⟩
  have sg : Same G (upd G p (.tup ws)) := same_upd gp
  have k0 : ∀ a ∈ ot ++ oe, upd H p (.tup ws) a = H a := fun a ha => by
    obtain ⟨u, e⟩ := all a ha
    exact upd_ne (ne a u e)
  subst h3
  have k1 : ∀ a ∈ o1, upd H p (.tup ws) a = H a := fun a ha => k0 a (by simp [ha])
  have k2 : ∀ a ∈ o2, upd H p (.tup ws) a = H a := fun a ha => k0 a (by simp [ha])
  have k3 : ∀ a ∈ oe, upd H p (.tup ws) a = H a := fun a ha => k0 a (by simp [ha])
  have tp : Rp K (upd G p (.tup ws)) (upd H p (.tup ws)) (mkTup us) (.ref p) o1 := by
    unfold mkTup
    cases q : allP us with
    | none => exact ⟨p, ws, rfl, upd_same, h1.mono sg _ k1⟩
    | some ds =>
      have e := allP_eq q
      subst e
      obtain ⟨g1, g2⟩ := rpDs_of h1
      exact ⟨⟨p, ws, rfl, upd_same, RpDs.mono sg _ g1⟩, g2⟩
  refine ⟨upd G p (.tup ws), o1 ++ o2, oe, ⟨.ref p, vs, o1, o2, rfl, tp, h2.mono sg _ k2, rfl⟩, s.env.mono sg _ k3, s.nd, fun a ha => ?_, fun b u e => sg b u (s.g0 b u e), fun b u e => ?_, fun b u e => ?_, fun b u e => ?_, fun q hq => ?_⟩
  · obtain ⟨u, e⟩ := all a ha
    rw [upd_ne (ne a u e)]
    exact s.fr a ha
  · by_cases hb : b = p
    · subst hb; rw [upd_same] at e ⊢; exact e
    · rw [upd_ne hb] at e ⊢; exact s.gh b u e
  · rw [upd_ne (ne b u (s.h0 b u e))]; exact s.h0 b u e
  · by_cases hb : b = p
    · exact .inr (.inl (by rw [hb]; exact Same.none s.h0 hp))
    · rw [upd_ne hb] at e; exact s.nw b u e
  · obtain ⟨o, h⟩ := s.vw q hq
    refine ⟨o, h.mono sg _ fun a ha => ?_⟩
    obtain ⟨u, e, _⟩ := h.there _ a ha
    exact upd_ne (ne a u e)
end
end DL
namespace DL
open PySem PySem.Spec PyProof.Rows L2
abbrev EF := Env → Option (T × Env)
abbrev AF := Env → Option (List T × Env)
abbrev CF := Env → Option (Bool × Env)
def EvT (K : KW) (te : TE) (f : EF) : Prop := ∀ (G0 H0 : Hp) (W : List (T × V)) (H : Hp) (ts : List T) (vs : List V) (env : Env) (σ : St) (t : T) (env' : Env), OkS K G0 H0 W H ts vs env σ → f env = some (t, env') →
  ∀ Q : VK, (∀ v H', Same H H' → OkS K G0 H0 W H' (t :: ts) (v :: vs) env' σ → Q v H') → te σ H Q
def EvV (K : KW) (te : TE) (f : EF) : Prop := ∀ (G0 H0 : Hp) (W : List (T × V)) (H : Hp) (ts : List T) (vs : List V) (env : Env) (σ : St) (t : T) (env' : Env), OkS K G0 H0 W H ts vs env σ → f env = some (t, env') →
  ∀ Q : VK, (∀ v H', Same H H' → OkS K G0 H0 ((t, v) :: W) H' ts vs env' σ → Q v H') → te σ H Q
def EvA (K : KW) (ta : TA) (f : AF) : Prop := ∀ (G0 H0 : Hp) (W : List (T × V)) (H : Hp) (ts : List T) (vs : List V) (env : Env) (σ : St) (us : List T) (env' : Env), OkS K G0 H0 W H ts vs env σ → f env = some (us, env') →
  ∀ Q : List V → Hp → Prop, (∀ ws H', Same H H' → ws.length = us.length → OkS K G0 H0 W H' (us ++ ts) (ws ++ vs) env' σ → Q ws H') → ta σ H Q
def EvC (K : KW) (tc : TT) (f : CF) : Prop := ∀ (G0 H0 : Hp) (W : List (T × V)) (H : Hp) (ts : List T) (vs : List V) (env : Env) (σ : St) (c : Bool) (env' : Env), OkS K G0 H0 W H ts vs env σ → f env = some (c, env') →
  ∀ Q : Bool → Hp → Prop, (∀ H', Same H H' → OkS K G0 H0 W H' ts vs env' σ → Q c H') → tc σ H Q
structure DT (X : Cx) (e : Expr) (te : TE) (f : EF) : Prop where
  pe : PE X e te
  ok : EvT X.kw te f
structure DV (X : Cx) (e : Expr) (te : TE) (f : EF) : Prop where
  pe : PE X e te
  ok : EvV X.kw te f
structure DA (X : Cx) (es : List Expr) (ta : TA) (f : AF) : Prop where
  pa : PA X es ta
  ok : EvA X.kw ta f
structure DC (X : Cx) (e : Expr) (tc : TT) (f : CF) : Prop where
  pt : PT X e tc
  ok : EvC X.kw tc f
section
variable {K : KW} {G0 H0 H : Hp} {W : List (T × V)} {ts : List T} {vs : List V} {env : Env} {σ : St} {t : T} {v : V}
theorem OkS.dup {d : D} (S : OkS K G0 H0 W H (.p d :: ts) (v :: vs) env σ) : OkS K G0 H0 W H (.p d :: .p d :: ts) (v :: v :: vs) env σ := by
  obtain ⟨G, ot, oe, s⟩ := S
  obtain ⟨u, r, o1, o2, h1, h2, h3, h4⟩ := id s.tmp
  cases h1
  refine ⟨G, ot, oe, ⟨v, _, [], ot, rfl, ⟨h2.1, rfl⟩, s.tmp, rfl⟩, s.env, s.nd, s.fr, s.g0, s.gh, s.h0, s.nw, s.vw⟩
theorem OkS.len (S : OkS K G0 H0 W H ts vs env σ) : σ.length = env.length := by
  obtain ⟨G, ot, oe, s⟩ := S
  exact s.env.len
end
theorem obind {α β : Type} {x : Option α} {f : α → Option β} {y : β} (h : x.bind f = some y) : ∃ a, x = some a ∧ f a = some y := by
  cases x with
  | none => cases h
  | some a => exact ⟨a, rfl, h⟩
theorem omap {α β : Type} {x : Option α} {f : α → β} {y : β} (h : x.map f = some y) : ∃ a, x = some a ∧ f a = y := by
  cases x with
  | none => cases h
  | some a => exact ⟨a, rfl, Option.some.inj h⟩
theorem set_back {α : Type} {l : List α} {i : Nat} {x : α} (h : l[i]? = some x) : l.set i x = l := by
  obtain ⟨h1, e⟩ := List.getElem?_eq_some_iff.mp h
  rw [← e]; exact List.set_getElem_self h1
def eC (d : D) : EF := fun env => some (.p d, env)
def eV (i : Nat) : EF := fun env => match env[i]? with
  | some (some (.p d)) => some (.p d, env)
  | some (some t) => some (.p t.toD, env.set i (some (.p t.toD)))
  | _ => none
def eM (i : Nat) : EF := fun env => match env[i]? with
  | some (some t) => some (t, env.set i none)
  | _ => none
def eB (i : Nat) : EF := fun env => match env[i]? with
  | some (some t) => some (t, env)
  | _ => none
theorem ev_c {K : KW} {d : D} {v : V} (h : ∀ G, RpD K G d v) : EvT K (tC v) (eC d) := by
  intro G0 H0 W H ts vs env σ t env' S e Q q
  cases e
  exact q v H (Same.refl _) (S.scal h)
theorem ev_v {K : KW} {i : Nat} : EvT K (tVar i) (eV i) := by
  intro G0 H0 W H ts vs env σ t env' S e Q q
  unfold eV at e
  cases h : env[i]? with
  | none => rw [h] at e; cases e
  | some x =>
    rw [h] at e
    cases x with
    | none => cases e
    | some u =>
      have own : (∀ d, u ≠ .p d) → some (T.p u.toD, env.set i (some (.p u.toD))) = some (t, env') → tVar i σ H Q := fun _ e => by
        cases e
        obtain ⟨v, hv, S1⟩ := S.get h
        have hl : i < env.length := (List.getElem?_eq_some_iff.mp h).1
        have S2 := S1.frz.dup.put (i := i) (by simpa using hl)
        rw [List.set_set, set_back hv] at S2
        exact ⟨v, hv, q v H (Same.refl _) S2⟩
      cases u with
      | p d =>
        cases e
        obtain ⟨v, hv, S1⟩ := S.look h
        exact ⟨v, hv, q v H (Same.refl _) S1.ofview⟩
      | lst us => exact own (fun d z => by cases z) e
      | tup us => exact own (fun d z => by cases z) e
      | dic us => exact own (fun d z => by cases z) e
      | dit us => exact own (fun d z => by cases z) e
      | obj n us => exact own (fun d z => by cases z) e
      | box a us => exact own (fun d z => by cases z) e
      | al a => exact own (fun d z => by cases z) e
      | din a => exact own (fun d z => by cases z) e
theorem ev_m {K : KW} {i : Nat} : EvT K (tVar i) (eM i) := by
  intro G0 H0 W H ts vs env σ t env' S e Q q
  unfold eM at e
  cases h : env[i]? with
  | none => rw [h] at e; cases e
  | some x =>
    rw [h] at e
    cases x with
    | none => cases e
    | some u =>
      cases e
      obtain ⟨v, hv, S1⟩ := S.get h
      exact ⟨v, hv, q v H (Same.refl _) S1⟩
theorem ev_b {K : KW} {i : Nat} : EvV K (tVar i) (eB i) := by
  intro G0 H0 W H ts vs env σ t env' S e Q q
  unfold eB at e
  cases h : env[i]? with
  | none => rw [h] at e; cases e
  | some x =>
    rw [h] at e
    cases x with
    | none => cases e
    | some u =>
      cases e
      obtain ⟨v, hv, S1⟩ := S.look h
      exact ⟨v, hv, q v H (Same.refl _) S1⟩
theorem EvT.view {K : KW} {te : TE} {f : EF} (h : EvT K te f) : EvV K te f := by
  intro G0 H0 W H ts vs env σ t env' S e Q q
  exact h _ _ _ _ _ _ _ _ _ _ S e Q fun v H' s S' => q v H' s S'.toview
def eW (f : EF) : EF := fun env => (f env).bind fun r => match r.1 with | .p d => some (.p d, r.2) | _ => none
theorem EvV.val {K : KW} {te : TE} {f : EF} (h : EvV K te f) : EvT K te (eW f) := by
  intro G0 H0 W H ts vs env σ t env' S e Q q
  obtain ⟨⟨u, e1⟩, h1, h2⟩ := obind e
  cases u with
  | p d => cases h2; exact h _ _ _ _ _ _ _ _ _ _ S h1 Q fun v H' s S' => q v H' s S'.ofview
  | lst _ => cases h2
  | tup _ => cases h2
  | dic _ => cases h2
  | dit _ => cases h2
  | obj _ _ => cases h2
  | box _ _ => cases h2
  | al _ => cases h2
  | din _ => cases h2
section
variable {X : Cx} {e a b : Expr} {es : List Expr} {te ta tb : TE} {tr : TA} {f fa fb : EF} {fr : AF} {pos : Pos}
theorem dt_int {i j} : DT X (.Constant (.int i) j pos) (tC (.int i)) (eC (.int i)) := ⟨pe_int, ev_c fun _ => rfl⟩
theorem dt_bl {b j} : DT X (.Constant (.bool b) j pos) (tC (.bl b)) (eC (.bl b)) := ⟨pe_bl, ev_c fun _ => rfl⟩
theorem dt_non {j} : DT X (.Constant .none j pos) (tC .non) (eC .non) := ⟨pe_non, ev_c fun _ => rfl⟩
theorem dt_str {x j} : DT X (.Constant (.str x) j pos) (tC (.str x)) (eC (.str x)) := ⟨pe_str, ev_c fun _ => rfl⟩
theorem dt_v (i : Nat) {x : Str} (hN : X.N[i]? = some x := by rfl) (hv : Vis X.env.scope x := by first | exact Or.inl rfl | exact Or.inr (Or.inl rfl) | exact Or.inr (Or.inr rfl)) (hd : (x == ("__debug__" : Str)) = false := by decide)
    (hcd : (x == ("__classdict__" : Str)) = false := by decide) : DT X (.Name x pos) (tVar i) (eV i) := ⟨pe_var hN hv hd hcd, ev_v⟩
theorem dt_m (i : Nat) {x : Str} (hN : X.N[i]? = some x := by rfl) (hv : Vis X.env.scope x := by first | exact Or.inl rfl | exact Or.inr (Or.inl rfl) | exact Or.inr (Or.inr rfl)) (hd : (x == ("__debug__" : Str)) = false := by decide)
    (hcd : (x == ("__classdict__" : Str)) = false := by decide) : DT X (.Name x pos) (tVar i) (eM i) := ⟨pe_var hN hv hd hcd, ev_m⟩
theorem dv_v (i : Nat) {x : Str} (hN : X.N[i]? = some x := by rfl) (hv : Vis X.env.scope x := by first | exact Or.inl rfl | exact Or.inr (Or.inl rfl) | exact Or.inr (Or.inr rfl)) (hd : (x == ("__debug__" : Str)) = false := by decide)
    (hcd : (x == ("__classdict__" : Str)) = false := by decide) : DV X (.Name x pos) (tVar i) (eB i) := ⟨pe_var hN hv hd hcd, ev_b⟩
theorem DT.dv (h : DT X e te f) : DV X e te f := ⟨h.pe, h.ok.view⟩
theorem DV.dt (h : DV X e te f) : DT X e te (eW f) := ⟨h.pe, h.ok.val⟩
def aN : AF := fun env => some ([], env)
def aC (f : EF) (r : AF) : AF := fun env => (f env).bind fun x => (r x.2).map fun y => (x.1 :: y.1, y.2)
theorem da_nil : DA X [] tNil aN := by
  refine ⟨pa_nil, ?_⟩
  intro G0 H0 W H ts vs env σ us env' S e Q q
  cases e
  exact q [] H (Same.refl _) rfl S
theorem da_cons (h : DT X e te f) (hr : DA X es tr fr) (hs : starEach (e :: es) X.env = (false, eval e X.env) :: starEach es X.env := by rfl) : DA X (e :: es) (tCons te tr) (aC f fr) := by
  refine ⟨pa_cons h.pe hr.pa hs, ?_⟩
  intro G0 H0 W H ts vs env σ us env' S g Q q
  obtain ⟨⟨x, e1⟩, h1, h2⟩ := obind g
  obtain ⟨⟨y, e2⟩, h3, h4⟩ := omap h2
  cases h4
  refine h.ok _ _ _ _ _ _ _ _ _ _ S h1 _ fun v H1 s1 S1 => ?_
  refine hr.ok _ _ _ _ _ _ _ _ _ _ S1 h3 _ fun ws H2 s2 hl S2 => ?_
  exact q (v :: ws) H2 (s1.trans s2) (by simp [hl]) (S2.mid hl)
def eL (r : AF) : EF := fun env => (r env).bind fun x => if x.1.length ≤ 1000 then some (.lst x.1, x.2) else none
def eT (r : AF) : EF := fun env => (r env).bind fun x => if x.1.length ≤ 1000 then some (mkTup x.1, x.2) else none
theorem le1000 {n : Nat} (h : n ≤ 1000) : n ≤ sizeLine := by rw [sizeLine_eq]; omega
theorem dt_lst (h : DA X es tr fr) : DT X (.List es pos) (tLst tr) (eL fr) := by
  refine ⟨pe_lst h.pa, ?_⟩
  intro G0 H0 W H ts vs env σ t env' S g Q q
  obtain ⟨⟨x, e1⟩, h1, h2⟩ := obind g
  by_cases hl : x.length ≤ 1000
  · rw [if_pos hl] at h2
    cases h2
    refine h.ok _ _ _ _ _ _ _ _ _ _ S h1 _ fun ws H1 s1 hw S1 => ⟨by rw [hw]; exact le1000 hl, fun p hp => ?_⟩
    exact q _ _ (s1.trans (same_upd hp)) (S1.newL hw hp)
  · rw [if_neg hl] at h2; cases h2
theorem dt_tup {k} (h : DA X es tr fr) : DT X (.Tuple es k pos) (tTup tr) (eT fr) := by
  refine ⟨pe_tup h.pa, ?_⟩
  intro G0 H0 W H ts vs env σ t env' S g Q q
  obtain ⟨⟨x, e1⟩, h1, h2⟩ := obind g
  by_cases hl : x.length ≤ 1000
  · rw [if_pos hl] at h2
    cases h2
    refine h.ok _ _ _ _ _ _ _ _ _ _ S h1 _ fun ws H1 s1 hw S1 => ⟨by rw [hw]; exact le1000 hl, fun p hp => ?_⟩
    exact q _ _ (s1.trans (same_upd hp)) (S1.newT hw hp)
  · rw [if_neg hl] at h2; cases h2
def eOp (g : D → D → Option D) (fa fb : EF) : EF := fun env => (fa env).bind fun x => (fb x.2).bind fun y => match x.1, y.1 with
  | .p a, .p b => (g a b).map fun d => (.p d, y.2)
  | _, _ => none
theorem eOp_some {g : D → D → Option D} {t : T} {env env' : Env} (h : eOp g fa fb env = some (t, env')) : ∃ a e1 b d, fa env = some (.p a, e1) ∧ fb e1 = some (.p b, env') ∧ g a b = some d ∧ t = .p d := by
  obtain ⟨⟨x, e1⟩, h1, h2⟩ := obind h
  obtain ⟨⟨y, e2⟩, h3, h4⟩ := obind h2
  cases x with
  | p a =>
    cases y with
    | p b =>
      obtain ⟨d, h5, h6⟩ := omap h4
      cases h6
      exact ⟨a, e1, b, d, h1, h3, h5, rfl⟩
    | lst _ => cases h4
    | tup _ => cases h4
    | dic _ => cases h4
    | dit _ => cases h4
    | obj _ _ => cases h4
    | box _ _ => cases h4
    | al _ => cases h4
    | din _ => cases h4
  | lst _ => cases h4
  | tup _ => cases h4
  | dic _ => cases h4
  | dit _ => cases h4
  | obj _ _ => cases h4
  | box _ _ => cases h4
  | al _ => cases h4
  | din _ => cases h4
def Sc2 (r : R2) (g : D → D → Option D) : Prop := ∀ a b d, g a b = some d → ∀ (K : KW) (H : Hp) (v w : V) (Q : VK), RpD K H a v → RpD K H b w → (∀ u, (∀ G, RpD K G d u) → Q u H) → r v w H Q
theorem ev_op {K : KW} {r : R2} {g : D → D → Option D} (hs : Sc2 r g) (ha : EvT K ta fa) (hb : EvT K tb fb) : EvT K (tOp r ta tb) (eOp g fa fb) := by
  intro G0 H0 W H ts vs env σ t env' S e Q q
  obtain ⟨a, e1, b, d, h1, h2, h3, rfl⟩ := eOp_some e
  refine ha _ _ _ _ _ _ _ _ _ _ S h1 _ fun v H1 s1 S1 => ?_
  refine hb _ _ _ _ _ _ _ _ _ _ S1 h2 _ fun w H2 s2 S2 => ?_
  exact hs a b d h3 K H2 v w Q S2.pop.top S2.top fun u hu => q u H2 (s1.trans s2) (S2.pop.pop.scal hu)
theorem dt_op {op : Operator} {r : R2} {g : D → D → Option D} (ho : OpR X (binaryOp op) r) (hs : Sc2 r g) (ha : DT X a ta fa) (hb : DT X b tb fb) : DT X (.BinOp a op b pos) (tOp r ta tb) (eOp g fa fb) :=
  ⟨pe_op ho ha.pe hb.pe, ev_op hs ha.ok hb.ok⟩
end
def gI (c : Int → Int → Bool) (f : Int → Int → Int) : D → D → Option D
  | .int i, .int j => if c i j then some (.int (f i j)) else none
  | _, _ => none
theorem gI_some {c : Int → Int → Bool} {f : Int → Int → Int} {a b d : D} (h : gI c f a b = some d) : ∃ i j, a = .int i ∧ b = .int j ∧ c i j = true ∧ d = .int (f i j) := by
  unfold gI at h
  split at h
  · rename_i i j
    by_cases hc : c i j = true
    · rw [if_pos hc] at h; cases h; exact ⟨i, j, rfl, rfl, hc, rfl⟩
    · rw [if_neg hc] at h; cases h
  · cases h
theorem sc_int {C : Int → Int → Prop} {c : Int → Int → Bool} {f : Int → Int → Int} (hc : ∀ i j, c i j = true → C i j) : Sc2 (rI C fun i j => .int (f i j)) (gI c f) := by
  intro a b d h K H v w Q hv hw q
  obtain ⟨i, j, rfl, rfl, h1, rfl⟩ := gI_some h
  exact ⟨i, j, hv, hw, hc i j h1, q _ fun _ => rfl⟩
theorem sc_int0 {f : Int → Int → Int} : Sc2 (rI0 fun i j => .int (f i j)) (gI (fun _ _ => true) f) := by
  intro a b d h K H v w Q hv hw q
  obtain ⟨i, j, rfl, rfl, h1, rfl⟩ := gI_some h
  exact ⟨i, j, hv, hw, q _ fun _ => rfl⟩
def mulOk (i j : Int) : Bool := decide ((-18446744073709551616 < i ∧ i < 18446744073709551616) ∨ (-18446744073709551616 < j ∧ j < 18446744073709551616) ∨ Builtin.Int.intBits i + Builtin.Int.intBits j ≤ 134217728)
def divOk (_ j : Int) : Bool := decide (0 < j ∧ j < 1606938044258990275541962092341162602522202993782792835301376)
def modOk (_ j : Int) : Bool := decide (0 < j)
def powOk (i j : Int) : Bool := decide (0 ≤ j ∧ j ≤ 1000 ∧ 0 ≤ i ∧ i < 18446744073709551616)
theorem mulOk_ok {i j : Int} (h : mulOk i j = true) : IntMulOk i j := by
  rcases of_decide_eq_true h with h | h | h
  · exact .of_left (intBits_le_64 (by omega) (by omega))
  · exact .of_right (intBits_le_64 (by omega) (by omega))
  · exact PyProof.Rows.mulOk_of_bits (Nat.le_refl _) (Nat.le_refl _) h
section
variable {X : Cx}
theorem op_mulB : OpR X (binaryOp .Mult) (rI IntMulOk fun i j => .int (i * j)) := opI fun _ _ _ _ _ _ _ hc q => mul_int q hc
theorem divOk_ok {i j : Int} (h : divOk i j = true) : CDivW i j := by
  obtain ⟨h1, h2⟩ := of_decide_eq_true h
  refine wide_div h1 (b := 200) ?_ (by decide) (by decide)
  have e : (2 : Nat) ^ 200 = 1606938044258990275541962092341162602522202993782792835301376 := by decide
  rw [e]; omega
theorem powOk_ok {i j : Int} (h : powOk i j = true) : CPow i j := by
  obtain ⟨h1, h2, h3, h4⟩ := of_decide_eq_true h
  refine ⟨h1, by omega, ?_⟩
  omega
end
end DL
namespace DL
open PySem PySem.Spec PyProof.Rows L2
inductive Fl where
  | nx | rt (t : T) | bk | ct
abbrev SF := Env → Option (Fl × Env)
def Dif (sl : List Nat) (σ σ' : St) : Prop := σ'.length = σ.length ∧ ∀ j, j ∉ sl → σ'[j]? = σ[j]?
theorem Dif.rfl' {sl : List Nat} {σ : St} : Dif sl σ σ := ⟨rfl, fun _ _ => rfl⟩
theorem Dif.set {i : Nat} {σ : St} {x : Option V} : Dif [i] σ (σ.set i x) := ⟨by simp, fun j hj => List.getElem?_set_ne (fun z => hj (by simp [z]))⟩
theorem Dif.tr {s1 s2 : List Nat} {σ σ1 σ2 : St} (a : Dif s1 σ σ1) (b : Dif s2 σ1 σ2) : Dif (s1 ++ s2) σ σ2 := ⟨b.1.trans a.1, fun j hj => (b.2 j fun z => hj (List.mem_append_right _ z)).trans (a.2 j fun z => hj (List.mem_append_left _ z))⟩
theorem Dif.l {s1 s2 : List Nat} {σ σ1 : St} (a : Dif s1 σ σ1) : Dif (s1 ++ s2) σ σ1 := ⟨a.1, fun j hj => a.2 j fun z => hj (List.mem_append_left _ z)⟩
theorem Dif.r {s1 s2 : List Nat} {σ σ1 : St} (a : Dif s2 σ σ1) : Dif (s1 ++ s2) σ σ1 := ⟨a.1, fun j hj => a.2 j fun z => hj (List.mem_append_right _ z)⟩
theorem Dif.two {s : List Nat} {σ σ1 σ2 : St} (a : Dif s σ σ1) (b : Dif s σ1 σ2) : Dif s σ σ2 := ⟨b.1.trans a.1, fun j hj => (b.2 j hj).trans (a.2 j hj)⟩
def Post (K : KW) (G0 H0 : Hp) (ts : List T) (vs : List V) (D : Ends) (fl : Fl) (env' : Env) (sl : List Nat) (σ : St) : Prop := match fl with
  | .nx => ∀ H' σ', OkS K G0 H0 [] H' ts vs env' σ' → Dif sl σ σ' → D.nx σ' H'
  | .bk => ∀ H' σ', OkS K G0 H0 [] H' ts vs env' σ' → Dif sl σ σ' → D.bk σ' H'
  | .ct => ∀ H' σ', OkS K G0 H0 [] H' ts vs env' σ' → Dif sl σ σ' → D.ct σ' H'
  | .rt t => ∀ v H' σ', OkS K G0 H0 [] H' (t :: ts) (v :: vs) env' σ' → Dif sl σ σ' → D.rt v H'
def EvS (K : KW) (s : TS) (F : SF) (sl : List Nat) : Prop := ∀ (G0 H0 H : Hp) (ts : List T) (vs : List V) (env : Env) (σ : St) (fl : Fl) (env' : Env), OkS K G0 H0 [] H ts vs env σ → F env = some (fl, env') → ∀ D : Ends, Post K G0 H0 ts vs D fl env' sl σ → s D σ H
structure DS (X : Cx) (st : Stmt) (s : TS) (F : SF) (sl : List Nat) : Prop where
  ps : PS X st s
  ok : EvS X.kw s F sl
structure DSs (X : Cx) (st : List Stmt) (s : TS) (F : SF) (sl : List Nat) : Prop where
  ps : PSs X st s
  ok : EvS X.kw s F sl
def sNx : SF := fun env => some (.nx, env)
def sSeq (F1 F2 : SF) : SF := fun env => (F1 env).bind fun r => match r.1 with
  | .nx => F2 r.2
  | .rt t => some (.rt t, r.2)
  | .bk => some (.bk, r.2)
  | .ct => some (.ct, r.2)
def sRet (f : EF) : SF := fun env => (f env).map fun r => (.rt r.1, r.2)
def sRetN : SF := fun env => some (.rt (.p .non), env)
def sBk : SF := fun env => some (.bk, env)
def sCt : SF := fun env => some (.ct, env)
def sIf (c : CF) (F1 F2 : SF) : SF := fun env => (c env).bind fun r => if r.1 then F1 r.2 else F2 r.2
def sSet (i : Nat) (f : EF) : SF := fun env => (f env).bind fun r => if i < r.2.length then some (.nx, r.2.set i (some r.1)) else none
def sDrop (f : EF) : SF := fun env => (f env).map fun r => (.nx, r.2)
section
variable {X : Cx} {e : Expr} {st : Stmt} {sts : List Stmt} {te : TE} {tc : TT} {f : EF} {c : CF} {t u : TS} {F1 F2 : SF} {pos : Pos} {sl sl2 : List Nat}
theorem dss_nil : DSs X [] tNext sNx [] := by
  refine ⟨pss_nil, ?_⟩
  intro G0 H0 H ts vs env σ fl env' S e D q
  cases e
  exact q H σ S .rfl'
theorem dss_cons (h1 : DS X st t F1 sl) (h2 : DSs X sts u F2 sl2) : DSs X (st :: sts) (tSeq t u) (sSeq F1 F2) (sl ++ sl2) := by
  refine ⟨pss_cons h1.ps h2.ps, ?_⟩
  intro G0 H0 H ts vs env σ fl env' S g D q
  obtain ⟨⟨fl1, e1⟩, g1, g2⟩ := obind g
  refine h1.ok _ _ _ _ _ _ _ _ _ S g1 _ ?_
  cases fl1 with
  | nx =>
    intro H' σ' S' f1
    refine h2.ok _ _ _ _ _ _ _ _ _ S' g2 D ?_
    cases fl with
    | nx => exact fun H2 σ2 S2 f2 => q H2 σ2 S2 (f1.tr f2)
    | bk => exact fun H2 σ2 S2 f2 => q H2 σ2 S2 (f1.tr f2)
    | ct => exact fun H2 σ2 S2 f2 => q H2 σ2 S2 (f1.tr f2)
    | rt v => exact fun w H2 σ2 S2 f2 => q w H2 σ2 S2 (f1.tr f2)
  | rt t => cases g2; exact fun w H2 σ2 S2 f2 => q w H2 σ2 S2 f2.l
  | bk => cases g2; exact fun H2 σ2 S2 f2 => q H2 σ2 S2 f2.l
  | ct => cases g2; exact fun H2 σ2 S2 f2 => q H2 σ2 S2 f2.l
theorem dss_one (h1 : DS X st t F1 sl) : DSs X [st] t F1 sl := ⟨pss_one h1.ps, h1.ok⟩
theorem ds_ret (h : DT X e te f) : DS X (.Return (some e) pos) (tRet te) (sRet f) [] := by
  refine ⟨ps_ret h.pe, ?_⟩
  intro G0 H0 H ts vs env σ fl env' S g D q
  obtain ⟨⟨x, e1⟩, g1, g2⟩ := omap g
  cases g2
  exact h.ok _ _ _ _ _ _ _ _ _ _ S g1 _ fun v H' _ S' => q v H' σ S' .rfl'
theorem ds_if {a b : List Stmt} (hc : DC X e tc c) (h1 : DSs X a t F1 sl) (h2 : DSs X b u F2 sl2) : DS X (.If e a b pos) (tIfS tc t u) (sIf c F1 F2) (sl ++ sl2) := by
  refine ⟨ps_if hc.pt h1.ps h2.ps, ?_⟩
  intro G0 H0 H ts vs env σ fl env' S g D q
  obtain ⟨⟨b, e1⟩, g1, g2⟩ := obind g
  refine hc.ok _ _ _ _ _ _ _ _ _ _ S g1 _ fun H' _ S' => ?_
  cases b with
  | true =>
    rw [if_pos rfl]
    refine h1.ok _ _ _ _ _ _ _ _ _ S' g2 D ?_
    cases fl with
    | nx => exact fun H2 σ2 S2 f2 => q H2 σ2 S2 f2.l
    | bk => exact fun H2 σ2 S2 f2 => q H2 σ2 S2 f2.l
    | ct => exact fun H2 σ2 S2 f2 => q H2 σ2 S2 f2.l
    | rt v => exact fun w H2 σ2 S2 f2 => q w H2 σ2 S2 f2.l
  | false =>
    rw [if_neg Bool.false_ne_true]
    refine h2.ok _ _ _ _ _ _ _ _ _ S' g2 D ?_
    cases fl with
    | nx => exact fun H2 σ2 S2 f2 => q H2 σ2 S2 f2.r
    | bk => exact fun H2 σ2 S2 f2 => q H2 σ2 S2 f2.r
    | ct => exact fun H2 σ2 S2 f2 => q H2 σ2 S2 f2.r
    | rt v => exact fun w H2 σ2 S2 f2 => q w H2 σ2 S2 f2.r
theorem evs_set {K : KW} {i : Nat} (h : EvT K te f) : EvS K (tAsg te (gName i)) (sSet i f) [i] := by
  intro G0 H0 H ts vs env σ fl env' S g D q
  obtain ⟨⟨x, e1⟩, g1, g2⟩ := obind g
  by_cases hi : i < e1.length
  · rw [if_pos hi] at g2
    cases g2
    exact h _ _ _ _ _ _ _ _ _ _ S g1 _ fun v H' _ S' => q H' _ (S'.put hi) .set
  · rw [if_neg hi] at g2; cases g2
theorem ds_set {i : Nat} {x : Str} {pos' : Pos} (hN : X.N.Nodup) (hi : X.N[i]? = some x) (hx : Loc X.env.scope x) (he : DT X e te f) (hs : swapsWith e (some (.Name x pos')) pos.line X.env = pure false := by rfl) (hf : X.fn x = true ∨ X.env.scope.names.lookup x = some .local := by first | exact .inl rfl | exact .inr rfl | assumption) :
    DS X (.Assign [.Name x pos'] e pos) (tAsg te (gName i)) (sSet i f) [i] := ⟨ps_set hN hi hx he.pe hs hf, evs_set he.ok⟩
end
abbrev GF := T → Env → Option Env
abbrev GsF := List T → Env → Option Env
def EvG (K : KW) (g : TG) (G : GF) (sl : List Nat) : Prop := ∀ (G0 H0 : Hp) (W : List (T × V)) (H : Hp) (ts : List T) (vs : List V) (env : Env) (σ : St) (d : T) (x : V) (env' : Env), OkS K G0 H0 W H (d :: ts) (x :: vs) env σ → G d env = some env' →
  ∀ Q : St → Hp → Prop, (∀ σ', OkS K G0 H0 W H ts vs env' σ' → Dif sl σ σ' → Q σ' H) → g x σ H Q
def EvGs (K : KW) (g : TGs) (G : GsF) (sl : List Nat) : Prop := ∀ (G0 H0 : Hp) (W : List (T × V)) (H : Hp) (ts : List T) (vs : List V) (env : Env) (σ : St) (ds : List T) (xs : List V) (env' : Env), OkS K G0 H0 W H (ds ++ ts) (xs ++ vs) env σ → xs.length = ds.length → G ds env = some env' →
  ∀ Q : St → Hp → Prop, (∀ σ', OkS K G0 H0 W H ts vs env' σ' → Dif sl σ σ' → Q σ' H) → g xs σ H Q
structure DG (X : Cx) (tg : Expr) (g : TG) (G : GF) (sl : List Nat) : Prop where
  pg : PG X tg g
  ok : EvG X.kw g G sl
structure DGs (X : Cx) (tg : List Expr) (g : TGs) (G : GsF) (sl : List Nat) : Prop where
  pg : PGs X tg g
  ok : EvGs X.kw g G sl
def gNm (i : Nat) : GF := fun d env => if i < env.length then some (env.set i (some d)) else none
def gEnd : GsF := fun ds env => match ds with | [] => some env | _ => none
def gAnd (g : GF) (r : GsF) : GsF := fun ds env => match ds with | d :: ds => (g d env).bind (r ds) | [] => none
def partsT : T → Option (List T)
  | .p (.tup ds) => some (ds.map T.p)
  | .tup ts => some ts
  | _ => none
def gTp (n : Nat) (g : GsF) : GF := fun d env => (partsT d).bind fun us => if us.length = n then g us env else none
theorem OkS.parts {K : KW} {G0 H0 H : Hp} {W : List (T × V)} {ts us : List T} {vs : List V} {env : Env} {σ : St} {v : V} {t : T} (S : OkS K G0 H0 W H (t :: ts) (v :: vs) env σ) (h : partsT t = some us) :
    ∃ a xs, v = .ref a ∧ SqT K H a xs ∧ xs.length = us.length ∧ OkS K G0 H0 W H (us ++ ts) (xs ++ vs) env σ := by
  obtain ⟨G, ot, oe, s⟩ := S
  obtain ⟨u, r, o1, o2, h1, h2, h3, h4⟩ := s.tmp
  cases h1
  cases t with
  | p d =>
    cases d with
    | tup ds =>
      cases h
      obtain ⟨⟨a, xs, e1, e2, e3⟩, e4⟩ := h2
      subst e4
      refine ⟨a, xs, e1, tup_seq s.gh e2, by rw [List.length_map]; exact e3.len, G, ot, oe, ?_, s.env, s.nd, s.fr, s.g0, s.gh, s.h0, s.nw, s.vw⟩
      rw [h4]
      exact (rpTs_p e3).append h3
    | _ => cases h
  | tup us' =>
    cases h
    obtain ⟨a, xs, e1, e2, e3⟩ := h2
    refine ⟨a, xs, e1, tup_seq s.gh e2, e3.len, G, ot, oe, ?_, s.env, s.nd, s.fr, s.g0, s.gh, s.h0, s.nw, s.vw⟩
    rw [h4]
    exact e3.append h3
  | lst _ => cases h
  | dic _ => cases h
  | dit _ => cases h
  | obj _ _ => cases h
  | box _ _ => cases h
  | al _ => cases h
  | din _ => cases h
section
variable {X : Cx} {e : Expr} {es : List Expr} {g : TG} {gs : TGs} {G : GF} {Gs : GsF} {pos : Pos}
theorem dg_name {i : Nat} {x : Str} (hN : X.N.Nodup) (hi : X.N[i]? = some x) (hx : Loc X.env.scope x) (hf : X.fn x = true ∨ X.env.scope.names.lookup x = some .local := by first | exact .inl rfl | exact .inr rfl | assumption) : DG X (.Name x pos) (gName i) (gNm i) [i] := by
  refine ⟨pg_name hN hi hx hf, ?_⟩
  intro G0 H0 W H ts vs env σ d x env' S e Q q
  unfold gNm at e
  by_cases hl : i < env.length
  · rw [if_pos hl] at e
    cases e
    exact q _ (S.put hl) .set
  · rw [if_neg hl] at e; cases e
theorem dgs_nil : DGs X [] gNil gEnd [] := by
  refine ⟨pgs_nil, ?_⟩
  intro G0 H0 W H ts vs env σ ds xs env' S hl e Q q
  cases ds with
  | nil =>
    cases e
    cases xs with
    | nil => exact ⟨rfl, q σ S ⟨rfl, fun _ _ => rfl⟩⟩
    | cons _ _ => simp at hl
  | cons _ _ => cases e
theorem dgs_cons {sl sl2 : List Nat} (h1 : DG X e g G sl) (h2 : DGs X es gs Gs sl2) (hs : (assignEach (e :: es) X.env).map (·.2) = assign e X.env :: (assignEach es X.env).map (·.2) := by rfl) : DGs X (e :: es) (gCons g gs) (gAnd G Gs) (sl ++ sl2) := by
  refine ⟨pgs_cons h1.pg h2.pg hs, ?_⟩
  intro G0 H0 W H ts vs env σ ds xs env' S hl e Q q
  cases ds with
  | nil => cases e
  | cons d ds =>
    cases xs with
    | nil => simp at hl
    | cons x xs =>
      obtain ⟨e1, g1, g2⟩ := obind e
      refine ⟨x, xs, rfl, ?_⟩
      exact h1.ok _ _ _ _ _ _ _ _ _ _ _ S g1 _ fun σ' S' f1 => h2.ok _ _ _ _ _ _ _ _ _ _ _ S' (by simpa using hl) g2 _ fun σ2 S2 f2 => q σ2 S2 ⟨f2.1.trans f1.1, fun j hj => (f2.2 j fun z => hj (List.mem_append_right _ z)).trans (f1.2 j fun z => hj (List.mem_append_left _ z))⟩
theorem dg_tup {k n : Nat} {sl : List Nat} (hc : X.calm = true) (h : DGs X es gs Gs sl) (hn : (assignEach es X.env).length = n := by rfl) (hst : (assignEach es X.env).findIdx? (·.1) = none := by rfl) : DG X (.Tuple es k pos) (gTup X.K n gs) (gTp n Gs) sl := by
  refine ⟨pg_tup hc h.pg hn hst, ?_⟩
  intro G0 H0 W H ts vs env σ d x env' S e Q q
  obtain ⟨us, h1, h2⟩ := obind e
  by_cases hl : us.length = n
  · rw [if_pos hl] at h2
    obtain ⟨a, xs, rfl, hx, hxl, S'⟩ := S.parts h1
    exact ⟨a, xs, rfl, hx, hxl.trans hl, h.ok _ _ _ _ _ _ _ _ _ _ _ S' hxl h2 _ q⟩
  · rw [if_neg hl] at h2; cases h2
def sAsg (f : EF) (G : GF) : SF := fun env => (f env).bind fun r => (G r.1 r.2).map fun e => (.nx, e)
end
structure ItOk (K : KW) (G1 : Hp) (J : It) (ds : List D) : Prop where
  go : ∀ (i : Nat) (H : Hp), Same G1 H → i < ds.length → J.go i H
  stop : ∀ H : Hp, Same G1 H → J.stop ds.length H
  yld : ∀ (i : Nat) (H : Hp) (x : V) (H' : Hp) (d : D), Same G1 H → ds[i]? = some d → J.yld i H x H' → (H' = H ∧ RpD K G1 d x) ∨ ∃ (p : Addr) (xs : List V) (es : List D), H p = none ∧ H' = upd H p (.tup xs) ∧ x = .ref p ∧ d = .tup es ∧ RpDs K G1 es xs
structure Gst (G0 H0 G1 : Hp) : Prop where
  s : Same G0 G1
  nw : ∀ a o, G1 a = some o → G0 a ≠ none ∨ H0 a = none ∨ Fix o
section
variable {K : KW} {G0 H0 H G1 : Hp} {W : List (T × V)} {ts : List T} {vs : List V} {env : Env} {σ : St} {t : T} {v : V}
theorem OkS.back (S : OkS K G1 H0 W H ts vs env σ) (g : Gst G0 H0 G1) : OkS K G0 H0 W H ts vs env σ := by
  obtain ⟨G, ot, oe, s⟩ := S
  refine ⟨G, ot, oe, s.tmp, s.env, s.nd, s.fr, g.s.trans s.g0, s.gh, s.h0, fun a o e => ?_, s.vw⟩
  rcases s.nw a o e with h | h | h
  · cases q : G1 a with
    | none => exact absurd q h
    | some u =>
      have := s.g0 a u q
      rw [e] at this
      cases this
      exact g.nw a o q
  · exact .inr (.inl h)
  · exact .inr (.inr h)
theorem OkS.fix (S : OkS K G0 H0 W H ts vs env σ) : ∃ G1, Gst G0 H0 G1 ∧ Same G1 H ∧ OkS K G1 H0 W H ts vs env σ := by
  obtain ⟨G, ot, oe, s⟩ := S
  refine ⟨G, ⟨s.g0, s.nw⟩, s.gh, G, ot, oe, s.tmp, s.env, s.nd, s.fr, Same.refl _, s.gh, s.h0, fun a o e => .inl (by rw [e]; simp), s.vw⟩
theorem OkS.fixTop {d : D} (S : OkS K G0 H0 W H (.p d :: ts) (v :: vs) env σ) : ∃ G1, Gst G0 H0 G1 ∧ Same G1 H ∧ RpD K G1 d v ∧ OkS K G1 H0 W H ts vs env σ := by
  have S' := S.pop
  obtain ⟨G, ot, oe, s⟩ := S
  obtain ⟨u, r, o1, o2, h1, h2, h3, h4⟩ := s.tmp
  cases h1
  have e4 : o2 = ot := by rw [h4, h2.2]; rfl
  rw [e4] at h3
  refine ⟨G, ⟨s.g0, s.nw⟩, s.gh, h2.1, G, ot, oe, h3, s.env, s.nd, s.fr, Same.refl _, s.gh, s.h0, fun a o e => .inl (by rw [e]; simp), s.vw⟩
theorem OkS.same (S : OkS K G1 H0 W H ts vs env σ) : Same G1 H := by
  obtain ⟨G, ot, oe, s⟩ := S
  exact s.g0.trans s.gh
theorem OkS.pushG {d : D} (S : OkS K G1 H0 W H ts vs env σ) (h : RpD K G1 d v) : OkS K G1 H0 W H (.p d :: ts) (v :: vs) env σ := by
  obtain ⟨G, ot, oe, s⟩ := S
  exact ⟨G, ot, oe, ⟨v, vs, [], ot, rfl, ⟨RpD.mono s.g0 _ h, rfl⟩, s.tmp, rfl⟩, s.env, s.nd, s.fr, s.g0, s.gh, s.h0, s.nw, s.vw⟩
theorem OkS.pushGs : ∀ {ds : List D} {xs : List V}, OkS K G1 H0 W H ts vs env σ → RpDs K G1 ds xs → OkS K G1 H0 W H (ds.map T.p ++ ts) (xs ++ vs) env σ
  | [], xs, S, h => by rw [show xs = [] from h]; exact S
  | d :: ds, xs, S, ⟨v, r, h1, h2, h3⟩ => by
    subst h1
    exact (OkS.pushGs S h3).pushG h2
end
theorem mkTup_p (ds : List D) : mkTup (ds.map T.p) = .p (.tup ds) := by
  have e : allP (ds.map T.p) = some ds := by
    induction ds with
    | nil => rfl
    | cons d ds ih => simp [allP, ih]
  unfold mkTup
  rw [e]
def loopD (G : GF) (body : SF) : List D → Env → Option (Fl × Env)
  | [], env => some (.nx, env)
  | d :: ds, env => (G (.p d) env).bind fun e1 => (body e1).bind fun r => match r.1 with
    | .nx => loopD G body ds r.2
    | .ct => loopD G body ds r.2
    | .bk => some (.nx, r.2)
    | .rt t => some (.rt t, r.2)
abbrev IF := Env → Option (List D × Env)
def EvI (K : KW) (wi : TI) (f : IF) : Prop := ∀ (G0 H0 : Hp) (W : List (T × V)) (H : Hp) (ts : List T) (vs : List V) (env : Env) (σ : St) (ds : List D) (env' : Env), OkS K G0 H0 W H ts vs env σ → f env = some (ds, env') →
  ∀ R : It → Hp → Prop, (∀ J H' G1, Same H H' → Gst G0 H0 G1 → ItOk K G1 J ds → OkS K G1 H0 W H' ts vs env' σ → R J H') → wi σ H R
structure DI (X : Cx) (tg it : Expr) (wi : TI) (f : IF) : Prop where
  pi : PI X tg it wi
  ok : EvI X.kw wi f
def sFor (f : IF) (G : GF) (body : SF) : SF := fun env => (f env).bind fun r => loopD G body r.1 r.2
theorem ItOk.item {K : KW} {G1 H0 H H' : Hp} {J : It} {ds : List D} {W : List (T × V)} {ts : List T} {vs : List V} {env : Env} {σ : St} {i : Nat} {d : D} {x : V} (I : ItOk K G1 J ds) (S : OkS K G1 H0 W H ts vs env σ) (hd : ds[i]? = some d) (y : J.yld i H x H') :
    Same H H' ∧ OkS K G1 H0 W H' (.p d :: ts) (x :: vs) env σ := by
  rcases I.yld i H x H' d S.same hd y with ⟨rfl, h⟩ | ⟨p, xs, es, hp, rfl, rfl, rfl, h⟩
  · exact ⟨Same.refl _, S.pushG h⟩
  · have S2 := (S.pushGs h).newT (by rw [List.length_map]; exact h.len) hp
    rw [mkTup_p] at S2
    exact ⟨same_upd hp, S2⟩
theorem ds_for {X : Cx} {tg iter : Expr} {body : List Stmt} {wi : TI} {f : IF} {g : TG} {G : GF} {tb : TS} {F : SF} {pos : Pos} {sl sl2 : List Nat} (hp : PassesOwn (model X.prog X.w) X.A X.env X.xe) (hc : X.calm = true) (hi : DI X tg iter wi f) (hg : DG X tg g G sl) (hb : DSs X body tb F sl2)
    (hs : ∀ x, foldedSetIterable iter X.env x = pure x := by intro _; rfl) : DS X (.For tg iter body [] pos) (tFor wi g tb) (sFor f G F) (sl ++ sl2) := by
  refine ⟨ps_for hp hc hi.pi hg.pg hb.ps hs, ?_⟩
  intro G0 H0 H ts vs env σ fl env' S e D q
  obtain ⟨⟨ds, e1⟩, g1, g2⟩ := obind e
  refine hi.ok _ _ _ _ _ _ _ _ _ _ S g1 _ fun J H1 G1 s1 gst I S1 => ?_
  refine ⟨fun i m σ2 H => m = ds.length - i ∧ i ≤ ds.length ∧ Dif (sl ++ sl2) σ σ2 ∧ ∃ env, OkS X.kw G1 H0 [] H ts vs env σ2 ∧ loopD G F (ds.drop i) env = some (fl, env'), ⟨ds.length, by simp, Nat.zero_le _, .rfl', e1, S1, by simpa using g2⟩, ?_⟩
  rintro i m σ2 H2 ⟨rfl, hle, df, env2, S2, hl⟩
  by_cases hlt : i < ds.length
  · refine .inr ⟨I.go i H2 S2.same hlt, fun σ' H' => i + 1 ≤ ds.length ∧ Dif (sl ++ sl2) σ σ' ∧ ∃ env, OkS X.kw G1 H0 [] H' ts vs env σ' ∧ loopD G F (ds.drop (i + 1)) env = some (fl, env'), fun σ' H' ⟨h1, h2⟩ => ⟨ds.length - (i + 1), by omega, rfl, h1, h2⟩, fun x H3 y => ?_⟩
    obtain ⟨s3, S3⟩ := I.item S2 (List.getElem?_eq_getElem hlt) y
    rw [List.drop_eq_getElem_cons hlt] at hl
    obtain ⟨e2, l1, l2⟩ := obind hl
    obtain ⟨⟨fl2, e3⟩, l3, l4⟩ := obind l2
    refine hg.ok _ _ _ _ _ _ _ _ _ _ _ S3 l1 _ fun σ' S' f1 => ?_
    refine hb.ok _ _ _ _ _ _ _ _ _ S' l3 _ ?_
    cases fl2 with
    | nx => exact fun H' σ4 S4 f2 => ⟨hlt, df.two (f1.tr f2), e3, S4, l4⟩
    | ct => exact fun H' σ4 S4 f2 => ⟨hlt, df.two (f1.tr f2), e3, S4, l4⟩
    | bk => cases l4; exact fun H' σ4 S4 f2 => q H' σ4 (S4.back gst) (df.two (f1.tr f2))
    | rt t => cases l4; exact fun v H' σ' S4 f2 => q v H' σ' (S4.back gst) (df.two (f1.tr f2))
  · have hi' : i = ds.length := by omega
    subst hi'
    rw [List.drop_length] at hl
    cases hl
    exact .inl ⟨I.stop H2 S2.same, q H2 σ2 (S2.back gst) df⟩
def iL (f : EF) : IF := fun env => (f env).bind fun r => match r.1 with | .p (.lst ds) => some (ds, r.2) | _ => none
def iTp (f : EF) : IF := fun env => (f env).bind fun r => match r.1 with | .p (.tup ds) => some (ds, r.2) | _ => none
theorem itOk_l {K : KW} {G1 : Hp} {a : Addr} {ds : List D} {xs : List V} (h : SqL K G1 a xs) (hr : RpDs K G1 ds xs) : ItOk K G1 (Itl K a) ds where
  go := fun i H s hi => ⟨xs, xs[i]'(by rw [hr.len]; exact hi), s.seq h, List.getElem?_eq_getElem _⟩
  stop := fun H s => ⟨xs, s.seq h, by rw [hr.len]; exact Nat.le_refl _⟩
  yld := fun i H x H' d s hd y => by
    obtain ⟨e, y⟩ := y
    obtain ⟨v, h1, h2⟩ := hr.get hd
    have := y xs (s.seq h)
    rw [h1] at this
    cases this
    exact .inl ⟨e, h2⟩
theorem di_list {X : Cx} {tg e : Expr} {te : TE} {f : EF} (h : DT X e te f) : DI X tg e (iList X.K te) (iL f) := by
  refine ⟨pi_list h.pe, ?_⟩
  intro G0 H0 W H ts vs env σ ds env' S g R r
  obtain ⟨⟨t, e1⟩, g1, g2⟩ := obind g
  cases t with
  | p d =>
    cases d with
    | lst ds' =>
      cases g2
      refine h.ok _ _ _ _ _ _ _ _ _ _ S g1 _ fun v H1 s1 S1 => ?_
      obtain ⟨G1, gst, sG, ⟨a, xs, e1, e2, e3⟩, S2⟩ := S1.fixTop
      exact ⟨a, e1, ⟨xs, sG.seq (.inl e2)⟩, r _ _ G1 s1 gst (itOk_l (.inl e2) e3) S2⟩
    | _ => cases g2
  | _ => cases g2
def rngD (lo : Int) (n : Nat) : List D := (List.range n).map fun (k : Nat) => D.int (lo + (k : Int))
theorem itOk_r {K : KW} {G1 : Hp} {lo : Int} {n : Nat} : ItOk K G1 (Itr lo n) (rngD lo n) where
  go := fun i H s hi => by show i < n; simpa [rngD] using hi
  stop := fun H s => by show n ≤ _; simp [rngD]
  yld := fun i H x H' d s hd y => by
    obtain ⟨e, y⟩ := y
    refine .inl ⟨e, ?_⟩
    by_cases hi : i < n
    · simp [rngD, hi] at hd
      subst hd
      exact y
    · simp [rngD, hi] at hd
def iR1 (f : AF) : IF := fun env => (f env).bind fun r => match r.1 with
  | [.p (.int j)] => if j < 4611686018427387904 ∧ -4611686018427387904 ≤ j then some (rngD 0 j.toNat, r.2) else none
  | _ => none
def iR2 (f : AF) : IF := fun env => (f env).bind fun r => match r.1 with
  | [.p (.int i), .p (.int j)] => if (i < 4611686018427387904 ∧ -4611686018427387904 ≤ i) ∧ (j < 4611686018427387904 ∧ -4611686018427387904 ≤ j) then some (rngD i (j - i).toNat, r.2) else none
  | _ => none
theorem di_range1 {X : Cx} {tg a : Expr} {ta : TA} {f : AF} {p pos : Pos} (hg : Gl X "range") (hm : X.mg "range" = none) (h : DA X [a] ta f) (hs : starEach [a] X.env = [(false, eval a X.env)] := by rfl) : DI X tg (.Call (.Name "range" p) [a] [] pos) (iRng1 ta) (iR1 f) := by
  refine ⟨pi_range1 hg hm h.pa hs, ?_⟩
  intro G0 H0 W H ts vs env σ ds env' S g R r
  obtain ⟨⟨us, e1⟩, g1, g2⟩ := obind g
  refine h.ok _ _ _ _ _ _ _ _ _ _ S g1 _ fun ws H1 s1 hl S1 => ?_
  dsimp only at g2
  split at g2
  · rename_i j
    by_cases hj : j < 4611686018427387904 ∧ -4611686018427387904 ≤ j
    · rw [if_pos hj] at g2
      cases g2
      cases ws with
      | nil => simp at hl
      | cons w ws =>
        cases ws with
        | cons _ _ => simp at hl
        | nil =>
          have ew : w = .int j := S1.top
          obtain ⟨G1, gst, sG, S2⟩ := OkS.fix (show OkS X.kw G0 H0 W H1 ts vs _ σ from S1.pop)
          exact ⟨j, by rw [ew], by omega, by omega, r _ _ G1 s1 gst itOk_r S2⟩
    · rw [if_neg hj] at g2; cases g2
  · cases g2
end DL
namespace DL
open PySem PySem.Spec PyProof.Rows L2
def spD (n : Nat) (φ : List D → Option T) (K : KW) : Sp := fun vs H Q _ => ∃ ds t G, ds.length = n ∧ φ ds = some t ∧ Same G H ∧ RpDs K G ds vs ∧ ∀ v G' H' o, Same G G' → Same G' H' → Same H H' → Rp K G' H' t v o → o.Nodup → (∀ a ∈ o, G' a = none ∧ H a = none) →
  (∀ a u, G' a = some u → G a ≠ none ∨ H a = none ∨ Fix u) → Q v H'
def startE (n : Nat) (ds : List D) : Env := ds.map (fun d => some (.p d)) ++ List.replicate (n - ds.length) none
def runF (n k : Nat) (F : SF) (ds : List D) : Option T := if ds.length = k then (F (startE n ds)).bind fun r => match r.1 with
  | .rt t => some t
  | .nx => some (.p .non)
  | _ => none
  else none
theorem rpE_start {K : KW} {G H : Hp} {m : Nat} : ∀ {ds : List D} {vs : List V}, RpDs K G ds vs → RpE K G H (ds.map (fun d => some (.p d)) ++ List.replicate m none) (vs.map some ++ List.replicate m none) []
  | [], vs, h => by
    rw [show vs = [] from h]
    show RpE K G H (List.replicate m none) (List.replicate m none) []
    induction m with
    | zero => exact ⟨rfl, rfl⟩
    | succ m ih => exact ⟨none, _, rfl, ih⟩
  | d :: ds, vs, ⟨v, r, h1, h2, h3⟩ => by
    subst h1
    exact ⟨v, _, [], [], rfl, ⟨h2, rfl⟩, rpE_start h3, rfl⟩
theorem L2_start {N : List Str} {vs : List V} : start N vs = vs.map some ++ List.replicate (N.length - vs.length) none := rfl
section
variable {P : Program} {w : World} {K : KW} {mg : Str → Option Value} {base : Heap}
theorem okD {x qual : Str} {st : Stmt} {f : Addr} {fd : FuncData} {N ps : List Str} {k : Nat} {n np : Nat} {Fb : SF} (F : Fun K x qual st f fd) (S : FnScope N ps (defScope st)) (hn : N.length = n) (hnp : ps.length = np)
    (hbody : ∀ (cdv : Value) (A : Around) (outer : List PySem.Env) (s : Shared) (H : Hp) (E : XK), Room k (A.deeper (envOfC qual (defScope st) s.heap.objs.size f cdv)) →
      ∃ t sl, DSs (cxOf CX0 K.P K.w K mg base N qual (defScope st) f cdv A outer s H E).nox (defBody st) t Fb sl) : FnOk K.P K.w K mg base CX0 (k + 1) f fd ps (spD np (runF n np Fb) K) := by
  refine F.ok S (fun vs H Q E h => ?_) (fun cdv A outer s H vs Q E hr h => ?_)
  · obtain ⟨ds, t, G, h1, _, _, h2, _⟩ := h
    rw [h2.len, h1, hnp]
  · obtain ⟨ds, t, G, h1, h2, h3, h4, q⟩ := h
    obtain ⟨tr, sl, hd⟩ := hbody cdv A outer s H E hr
    refine ⟨tr, hd.ps, ?_⟩
    unfold runF at h2
    rw [if_pos h1] at h2
    obtain ⟨⟨fl, e1⟩, g1, g2⟩ := obind h2
    have S0 : OkS K G H [] H [] [] (startE n ds) (start N vs) := by
      refine ⟨G, [], [], ⟨rfl, rfl⟩, ?_, by simp, fun a ha => by simp at ha, Same.refl _, h3, Same.refl _, fun a o e => .inl (by rw [e]; simp), fun q hq => by cases hq⟩
      rw [L2_start, hn, h4.len]
      exact rpE_start h4
    refine hd.ok G H H [] [] _ _ fl e1 S0 g1 _ ?_
    have fin : ∀ (u : T) (v : V) (H' : Hp) (env : Env) (σ : St), OkS K G H [] H' [u] [v] env σ → u = t → Q v H' := fun u v H' env σ S1 e => by
      subst e
      obtain ⟨G', ot, oe, s1⟩ := S1
      obtain ⟨w, r, o1, o2, a1, a2, a3, a4⟩ := s1.tmp
      cases a1
      have a5 : o2 = [] := a3.2
      subst a5
      rw [List.append_nil] at a4
      subst a4
      exact q v G' H' ot s1.g0 s1.gh s1.h0 a2 (List.nodup_append.mp s1.nd).1 (fun a ha => s1.fr a (List.mem_append_left _ ha)) s1.nw
    cases fl with
    | nx =>
      have e : T.p .non = t := Option.some.inj g2
      exact fun H' σ' S1 _ => fin _ _ H' e1 σ' (S1.scal (z := .non) (u := .non) fun _ => rfl) e
    | rt u =>
      have e : u = t := Option.some.inj g2
      exact fun v H' σ' S1 _ => fin _ _ H' e1 σ' S1 e
    | bk => cases g2
    | ct => cases g2
end
def eCall (φ : List D → Option T) (fa : AF) : EF := fun env => (fa env).bind fun r => (allP r.1).bind fun ds => (φ ds).map fun t => (t, r.2)
theorem OkS.called {K : KW} {G0 H0 H H' G G' : Hp} {W : List (T × V)} {ts : List T} {vs : List V} {env : Env} {σ : St} {ot oe o : List Addr} {t : T} {v : V} (s : St0 K G0 H0 W G H ts vs env σ ot oe)
    (h1 : Same G G') (h2 : Same G' H') (h3 : Same H H') (h4 : Rp K G' H' t v o) (h5 : o.Nodup) (h6 : ∀ a ∈ o, G' a = none ∧ H a = none) (h7 : ∀ a u, G' a = some u → G a ≠ none ∨ H a = none ∨ Fix u) : OkS K G0 H0 W H' (t :: ts) (v :: vs) env σ := by
  have all : ∀ a ∈ ot ++ oe, ∃ u, H a = some u ∧ ¬ Fix u := fun a ha => by
    rcases List.mem_append.mp ha with ha | ha
    · exact s.tmp.there _ a ha
    · exact s.env.there _ a ha
  have kp : ∀ a ∈ ot ++ oe, H' a = H a := fun a ha => by
    obtain ⟨u, e, _⟩ := all a ha
    rw [e, h3 a u e]
  refine ⟨G', o ++ ot, oe, ⟨v, vs, o, ot, rfl, h4, s.tmp.mono h1 _ (fun a ha => kp a (List.mem_append_left _ ha)), rfl⟩, s.env.mono h1 _ (fun a ha => kp a (List.mem_append_right _ ha)), ?_, fun a ha => ?_, s.g0.trans h1, h2, s.h0.trans h3, fun a u e => ?_, fun q hq => ?_⟩
  · rw [List.append_assoc]
    refine List.nodup_append.mpr ⟨h5, s.nd, fun a ha b hb e => ?_⟩
    subst e
    obtain ⟨u, e, _⟩ := all a hb
    rw [(h6 a ha).2] at e; cases e
  · rw [List.append_assoc] at ha
    rcases List.mem_append.mp ha with ha | ha
    · exact ⟨(h6 a ha).1, Same.none s.h0 (h6 a ha).2⟩
    · refine ⟨?_, (s.fr a ha).2⟩
      cases q : G' a with
      | none => rfl
      | some u =>
        obtain ⟨u', e, ne⟩ := all a ha
        rcases h7 a u q with z | z | z
        · exact absurd (s.fr a ha).1 z
        · rw [z] at e; cases e
        · have := h2 a u q
          rw [h3 a u' e] at this
          cases this
          exact absurd z ne
  · rcases h7 a u e with z | z | z
    · cases q : G a with
      | none => exact absurd q z
      | some u' =>
        have := h1 a u' q
        rw [e] at this; cases this
        exact s.nw a u q
    · exact .inr (.inl (Same.none s.h0 z))
    · exact .inr (.inr z)
  · obtain ⟨o', h⟩ := s.vw q hq
    refine ⟨o', h.mono h1 _ fun a ha => ?_⟩
    obtain ⟨u, e, _⟩ := h.there _ a ha
    rw [e, h3 a u e]
theorem ev_call {K : KW} {n : Nat} {φ : List D → Option T} {ta : TA} {fa : AF} (hφ : ∀ ds t, φ ds = some t → ds.length = n) (ha : EvA K ta fa) : EvT K (tCall (spD n φ K) [] E0 ta) (eCall φ fa) := by
  intro G0 H0 W H ts vs env σ t env' S g Q q
  obtain ⟨⟨us, e1⟩, g1, g2⟩ := obind g
  obtain ⟨ds, g3, g4⟩ := obind g2
  obtain ⟨t', g5, g6⟩ := omap g4
  cases g6
  have eu := allP_eq g3
  have eu : us = ds.map T.p := eu
  subst eu
  refine ha _ _ _ _ _ _ _ _ _ _ S g1 _ fun ws H1 s1 hl S1 => ?_
  obtain ⟨G, ot, oe, s⟩ := S1
  obtain ⟨o1, o2, k1, k2, k3⟩ := s.tmp.split hl
  obtain ⟨k4, k5⟩ := rpDs_of k1
  subst k5
  have k3 : ot = o2 := k3
  subst k3
  have s' : St0 K G0 H0 W G H1 ts vs _ σ ot oe := ⟨k2, s.env, s.nd, s.fr, s.g0, s.gh, s.h0, s.nw, s.vw⟩
  refine ⟨ds, t, G, hφ _ _ g5, g5, s.gh, by rw [List.append_nil]; exact k4, fun v G' H' o h1 h2 h3 h4 h5 h6 h7 => ?_⟩
  exact q v H' (s1.trans h3) (OkS.called s' h1 h2 h3 h4 h5 h6 h7)
theorem runF_len {n k : Nat} {F : SF} {ds : List D} {t : T} (h : runF n k F ds = some t) : ds.length = k := by
  unfold runF at h
  by_cases hl : ds.length = k
  · exact hl
  · rw [if_neg hl] at h; cases h
section
variable {X : Cx} {k : Nat} {f : Addr} {fd : FuncData} {ps : List Str} {n : Nat} {φ : List D → Option T} {x : Str} {p pos : Pos} {e : Expr} {es : List Expr} {ta : TA} {fa : AF}
theorem dt_call (hφ : ∀ ds t, φ ds = some t → ds.length = n) (F : FnOk X.prog X.w X.K X.mg X.base CX0 k f fd ps (spD n φ X.kw)) (hr : Room k X.A) (hg : Gl X x) (hm : X.mg x = some (.ref f)) (hk : PySem.W.keepIn X.K (.ref f) = true) (hb : Binds X.K fd ps [])
    (ha : DA X (e :: es) ta fa) (hdb : (x == ("__debug__" : Str)) = false := by decide) (he : starEach (e :: es) X.env = (false, eval e X.env) :: starEach es X.env := by rfl) (hpl : (backTo pos (starEach es X.env)).any (·.1) = false := by rfl) :
    DT X (.Call (.Name x p) (e :: es) [] pos) (tCall (spD n φ X.kw) [] E0 ta) (eCall φ fa) := ⟨pe_call F hr hg hm hk hb .nil pass0 ha.pa hdb he hpl, ev_call hφ ha.ok⟩
end
end DL
namespace DL
open PySem PySem.Spec PyProof.Rows L2
def toV : D → Option V
  | .non => some .non
  | .bl b => some (.bl b)
  | .int i => some (.int i)
  | .str s => some (.str s)
  | _ => none
mutual
def toPy : D → Option PyData
  | .non => some .none
  | .bl b => some (.bool b)
  | .int i => some (.int i)
  | .str s => some (.str s)
  | .lst ds => (toPys ds).map .list
  | .tup ds => (toPys ds).map .tuple
  | .tux ds => (toPys ds).map .tuple
  | .dic _ => none
  | _ => none
def toPys : List D → Option (List PyData)
  | [] => some []
  | d :: ds => (toPy d).bind fun p => (toPys ds).map (p :: ·)
end
theorem toV_rp {K : KW} {G : Hp} {d : D} {v w : V} (h : toV d = some v) (r : RpD K G d w) : w = v := by
  cases d <;> simp only [toV, Option.some.injEq, reduceCtorEq] at h
  all_goals (subst h; exact r)
mutual
theorem toPy_rp {K : KW} {G : Hp} : ∀ {d : D} {p : PyData} {v : V}, toPy d = some p → RpD K G d v → Dp K G v p
  | .non, p, v, h, r => by cases h; rw [show v = _ from r]; exact .non
  | .bl _, p, v, h, r => by cases h; rw [show v = _ from r]; exact .bl _
  | .int _, p, v, h, r => by cases h; rw [show v = _ from r]; exact .int _
  | .str _, p, v, h, r => by cases h; rw [show v = _ from r]; exact .str _
  | .lst ds, p, v, h, ⟨a, vs, h1, h2, h3⟩ => by
    obtain ⟨q, g1, g2⟩ := omap (show (toPys ds).map PyData.list = some p from h)
    subst g2; subst h1
    exact .lst (.inl h2) (toPys_rp g1 h3)
  | .tup ds, p, v, h, ⟨a, vs, h1, h2, h3⟩ => by
    obtain ⟨q, g1, g2⟩ := omap (show (toPys ds).map PyData.tuple = some p from h)
    subst g2; subst h1
    exact .tup (tup_sq h2) (toPys_rp g1 h3)
  | .dic _, p, v, h, r => by cases h
  | .dit _, p, v, h, r => by cases h
  | .obj _ _, p, v, h, r => by cases h
  | .al _, p, v, h, r => by cases h
  | .din _, p, v, h, r => by cases h
  | .tux ds, p, v, h, ⟨a, o, vs, h1, h2, h4, h3⟩ => by
    obtain ⟨q, g1, g2⟩ := omap (show (toPys ds).map PyData.tuple = some p from h)
    subst g2; subst h1
    exact .tup (.inl (.inr ⟨o, h2⟩)) (toPys_rp g1 h3)
theorem toPys_rp {K : KW} {G : Hp} : ∀ {ds : List D} {ps : List PyData} {vs : List V}, toPys ds = some ps → RpDs K G ds vs → DpAll K G vs ps
  | [], ps, vs, h, r => by cases h; rw [show vs = [] from r]; exact .nil
  | d :: ds, ps, vs, h, ⟨v, r, h1, h2, h3⟩ => by
    obtain ⟨p, g1, g2⟩ := obind (show (toPy d).bind (fun p => (toPys ds).map (p :: ·)) = some ps from h)
    obtain ⟨qs, g3, g4⟩ := omap g2
    subst g4; subst h1
    exact .cons (toPy_rp g1 h2) (toPys_rp g3 h3)
end
def eqDeep (a b : D) : Option Bool := (toPy a).bind fun p => (toPy b).bind fun q => if SeqAt.shaped p && SeqAt.shaped q then some (PyData.eqv p q) else none
def eqQ (a b : D) : Option Bool := match toV a, toV b with
  | some v, some w => if scal v w then some (decide (v = w)) else none
  | _, _ => eqDeep a b
def rEqA (K : PySem.W.Frag) : R2 := fun x y H Q => rEq x y H Q ∨ rEqD K x y H Q
def rNeA (K : PySem.W.Frag) : R2 := fun x y H Q => rNe x y H Q ∨ rNeD K x y H Q
theorem OpR.or {X : Cx} {f : Value → Value → Sem Value} {r r' : R2} (h : OpR X f r) (h' : OpR X f r') : OpR X f (fun x y H Q => r x y H Q ∨ r' x y H Q) := by
  intro pins s σ H x y v u Q I rx ry q
  rcases q with q | q
  · exact h pins s σ H x y v u Q I rx ry q
  · exact h' pins s σ H x y v u Q I rx ry q
theorem op_eqA {X : Cx} (hu : X.A.units + 64 < cLine) : OpR X (compareOp .Eq) (rEqA X.K) := OpR.or op_eq (op_eqD hu)
theorem op_neA {X : Cx} (hu : X.A.units + 64 < cLine) : OpR X (compareOp .NotEq) (rNeA X.K) := OpR.or op_ne (op_neD hu)
theorem eqQ_r {K : KW} {H : Hp} {a b : D} {c : Bool} {v w : V} {Q : VK} (h : eqQ a b = some c) (ha : RpD K H a v) (hb : RpD K H b w) (q : Q (.bl c) H) : rEqA K v w H Q := by
  have deep : eqDeep a b = some c → rEqA K v w H Q := fun h => by
    obtain ⟨p, h1, h2⟩ := obind h
    obtain ⟨p', h3, h4⟩ := obind h2
    by_cases hs : (SeqAt.shaped p && SeqAt.shaped p') = true
    · rw [if_pos hs] at h4
      cases h4
      rw [Bool.and_eq_true] at hs
      exact .inr ⟨p, p', toPy_rp h1 ha, toPy_rp h3 hb, hs.1, hs.2, q⟩
    · rw [if_neg hs] at h4; cases h4
  unfold eqQ at h
  split at h
  · rename_i v' w' e1 e2
    rw [toV_rp e1 ha, toV_rp e2 hb]
    by_cases hs : scal v' w' = true
    · rw [if_pos hs] at h; cases h; exact .inl ⟨hs, q⟩
    · rw [if_neg hs] at h; cases h
  · exact deep h
theorem neQ_r {K : KW} {H : Hp} {a b : D} {c : Bool} {v w : V} {Q : VK} (h : eqQ a b = some c) (ha : RpD K H a v) (hb : RpD K H b w) (q : Q (.bl (!c)) H) : rNeA K v w H Q := by
  have deep : eqDeep a b = some c → rNeA K v w H Q := fun h => by
    obtain ⟨p, h1, h2⟩ := obind h
    obtain ⟨p', h3, h4⟩ := obind h2
    by_cases hs : (SeqAt.shaped p && SeqAt.shaped p') = true
    · rw [if_pos hs] at h4
      cases h4
      rw [Bool.and_eq_true] at hs
      exact .inr ⟨p, p', toPy_rp h1 ha, toPy_rp h3 hb, hs.1, hs.2, q⟩
    · rw [if_neg hs] at h4; cases h4
  unfold eqQ at h
  split at h
  · rename_i v' w' e1 e2
    rw [toV_rp e1 ha, toV_rp e2 hb]
    by_cases hs : scal v' w' = true
    · rw [if_pos hs] at h; cases h; exact .inl ⟨hs, q⟩
    · rw [if_neg hs] at h; cases h
  · exact deep h
def eCmp (g : D → D → Option Bool) (fa fb : EF) : EF := fun env => (fa env).bind fun x => (fb x.2).bind fun y => (g x.1.toD y.1.toD).map fun c => (.p (.bl c), y.2)
def Cm2 (r : PySem.W.Frag → R2) (g : D → D → Option Bool) : Prop := ∀ (K : KW) (H : Hp) (a b : D) (c : Bool) (v w : V) (Q : VK), g a b = some c → RpD K H a v → RpD K H b w → Q (.bl c) H → r K v w H Q
theorem ev_cmp {K : KW} {r : PySem.W.Frag → R2} {g : D → D → Option Bool} {ta tb : TE} {fa fb : EF} (hr : Cm2 r g) (ha : EvV K ta fa) (hb : EvV K tb fb) : EvT K (tOp (r K) ta tb) (eCmp g fa fb) := by
  intro G0 H0 W H ts vs env σ t env' S e Q q
  obtain ⟨⟨x, e1⟩, h1, h2⟩ := obind e
  obtain ⟨⟨y, e2⟩, h3, h4⟩ := obind h2
  obtain ⟨c, h5, h6⟩ := omap h4
  cases h6
  refine ha _ _ _ _ _ _ _ _ _ _ S h1 _ fun v H1 s1 S1 => ?_
  refine hb _ _ _ _ _ _ _ _ _ _ S1 h3 _ fun w H2 s2 S2 => ?_
  exact hr K H2 _ _ c v w Q h5 (S2.see (q := (x, v)) (by simp)) (S2.see (q := (y, w)) (by simp)) (q _ H2 (s1.trans s2) (S2.unview.unview.scal fun _ => rfl))
theorem cm_eq : Cm2 rEqA eqQ := fun K H a b c v w Q h ha hb q => eqQ_r h ha hb q
def neQ (a b : D) : Option Bool := (eqQ a b).map (!·)
theorem cm_ne : Cm2 rNeA neQ := fun K H a b c v w Q h ha hb q => by
  obtain ⟨c', h1, h2⟩ := omap h
  subst h2
  exact neQ_r h1 ha hb q
def cmI (f : Int → Int → Bool) : D → D → Option Bool
  | .int i, .int j => some (f i j)
  | _, _ => none
theorem cm_int {f : Int → Int → Bool} : Cm2 (fun _ => rI0 fun i j => .bl (f i j)) (cmI f) := fun K H a b c v w Q h ha hb q => by
  unfold cmI at h
  split at h
  · rename_i i j
    cases h
    exact ⟨i, j, ha, hb, q⟩
  · cases h
def D.isNon : D → Bool
  | .non => true
  | _ => false
def D.isAl : D → Bool
  | .al _ => true
  | .din _ => true
  | _ => false
theorem rp_non {K : KW} {G : Hp} {d : D} {v : V} (hd : d.isAl = false) (r : RpD K G d v) : decide (v = .non) = d.isNon := by
  cases d with
  | non => rw [show v = _ from r]; rfl
  | bl b => rw [show v = _ from r]; rfl
  | int b => rw [show v = _ from r]; rfl
  | str b => rw [show v = _ from r]; rfl
  | lst b => obtain ⟨a, vs, h, _⟩ := r; rw [h]; rfl
  | tup b => obtain ⟨a, vs, h, _⟩ := r; rw [h]; rfl
  | dic b => obtain ⟨a, vs, h, _⟩ := r; rw [h]; rfl
  | dit b => obtain ⟨a, vs, h, _⟩ := r; rw [h]; rfl
  | obj n b => obtain ⟨a, C, dx, vs, h, _⟩ := r; rw [h]; rfl
  | al a => cases hd
  | din a => cases hd
  | tux b => obtain ⟨a, o, vs, h, _⟩ := r; rw [h]; rfl
def isN (a b : D) : Option Bool := match b with | .non => if a.isAl = true then none else some a.isNon | _ => none
theorem isN_some {a b : D} {c : Bool} (h : isN a b = some c) : b = .non ∧ a.isAl = false ∧ c = a.isNon := by
  cases b <;> simp only [isN, reduceCtorEq] at h
  by_cases q : a.isAl = true
  · rw [if_pos q] at h; cases h
  · rw [if_neg q] at h; cases h; exact ⟨rfl, by simpa using q, rfl⟩
def rIsA (_ : PySem.W.Frag) : R2 := fun x y H Q => y = .non ∧ Q (.bl (decide (x = .non))) H
def rIsNotA (_ : PySem.W.Frag) : R2 := fun x y H Q => y = .non ∧ Q (.bl (!decide (x = .non))) H
theorem op_isA {X : Cx} : OpR X (compareOp .Is) (rIsA X.K) := op_isN
theorem op_isNotA {X : Cx} : OpR X (compareOp .IsNot) (rIsNotA X.K) := op_notN
theorem cm_is : Cm2 rIsA isN := fun K H a b c v w Q h ha hb q => by
  obtain ⟨rfl, h1, rfl⟩ := isN_some h
  exact ⟨hb, by rw [rp_non h1 ha]; exact q⟩
def isNotN (a b : D) : Option Bool := (isN a b).map (!·)
theorem cm_isNot : Cm2 rIsNotA isNotN := fun K H a b c v w Q h ha hb q => by
  obtain ⟨c', h1, h2⟩ := omap h
  subst h2
  obtain ⟨rfl, h3, rfl⟩ := isN_some h1
  exact ⟨hb, by rw [rp_non h3 ha]; exact q⟩
def toVs : List D → Option (List V)
  | [] => some []
  | d :: ds => (toV d).bind fun v => (toVs ds).map (v :: ·)
theorem toVs_rp {K : KW} {G : Hp} : ∀ {ds : List D} {vs ws : List V}, toVs ds = some vs → RpDs K G ds ws → ws = vs
  | [], vs, ws, h, r => by cases h; exact r
  | d :: ds, vs, ws, h, ⟨v, r, h1, h2, h3⟩ => by
    obtain ⟨p, g1, g2⟩ := obind (show (toV d).bind (fun p => (toVs ds).map (p :: ·)) = some vs from h)
    obtain ⟨qs, g3, g4⟩ := omap g2
    subst g4; subst h1
    rw [toV_rp g1 h2, toVs_rp g3 h3]
def inFlat (a : D) (ds : List D) : Option Bool := (toV a).bind fun v => (toVs ds).bind fun vs => if flatV v && vs.all flatV then some (inV v vs) else none
def inStr (a b : Str) : Bool := match a.cps.toList with
  | [c] => decide (c ∈ b.cps.toList)
  | _ => !(Builtin.Str.occurrences b a 0 b.length 1).isEmpty
def inQ (a b : D) : Option Bool := match a, b with
  | .str s, .str t => some (inStr s t)
  | a, .lst ds => inFlat a ds
  | a, .tup ds => inFlat a ds
  | _, _ => none
def notInQ (a b : D) : Option Bool := (inQ a b).map (!·)
def rInA (K : PySem.W.Frag) : R2 := fun x y H Q => (∃ (c : Nat) (z : Str), x = .str ⟨#[c]⟩ ∧ y = .str z ∧ Q (.bl (decide (c ∈ z.cps.toList))) H) ∨ (∃ i j, x = .str i ∧ y = .str j ∧ Q (.bl (!(Builtin.Str.occurrences j i 0 j.length 1).isEmpty)) H) ∨ rIn K false x y H Q
def rNotInA (K : PySem.W.Frag) : R2 := fun x y H Q => (∃ (c : Nat) (z : Str), x = .str ⟨#[c]⟩ ∧ y = .str z ∧ Q (.bl (!decide (c ∈ z.cps.toList))) H) ∨ (∃ i j, x = .str i ∧ y = .str j ∧ Q (.bl (!(!(Builtin.Str.occurrences j i 0 j.length 1).isEmpty))) H) ∨ rIn K true x y H Q
theorem op_inA {X : Cx} : OpR X (compareOp .In) (rInA X.K) := OpR.or op_in_sign (OpR.or op_in_str op_in_seq)
theorem op_notInA {X : Cx} : OpR X (compareOp .NotIn) (rNotInA X.K) := OpR.or op_notIn_sign (OpR.or op_notIn_str op_notIn_seq)
theorem str_one {a : Str} {c : Nat} (h : a.cps.toList = [c]) : a = ⟨#[c]⟩ := by
  obtain ⟨⟨l⟩⟩ := a
  have h : l = [c] := h
  subst h; rfl
theorem cm_in : Cm2 rInA inQ := fun K H a b c v w Q h ha hb q => by
  have fl : ∀ ds : List D, inFlat a ds = some c → (∃ p xs, w = .ref p ∧ (SqL K H p xs ∨ SqT K H p xs) ∧ RpDs K H ds xs) → rInA K v w H Q := fun ds h ⟨p, xs, h1, h2, h3⟩ => by
    obtain ⟨v', g1, g2⟩ := obind h
    obtain ⟨vs, g3, g4⟩ := obind g2
    by_cases hf : (flatV v' && vs.all flatV) = true
    · rw [if_pos hf] at g4
      cases g4
      rw [Bool.and_eq_true] at hf
      have e1 := toV_rp g1 ha
      have e2 := toVs_rp g3 h3
      subst e1; subst e2
      exact .inr (.inr ⟨p, xs, h1, h2, hf.1, hf.2, q⟩)
    · rw [if_neg hf] at g4; cases g4
  unfold inQ at h
  split at h
  · rename_i s t
    cases h
    unfold inStr at q
    split at q
    · rename_i c e
      rw [show v = _ from ha, str_one e]
      exact .inl ⟨c, t, rfl, hb, q⟩
    · exact .inr (.inl ⟨s, t, ha, hb, q⟩)
  · rename_i ds
    obtain ⟨p, xs, h1, h2, h3⟩ := hb
    exact fl ds h ⟨p, xs, h1, .inl (.inl h2), h3⟩
  · rename_i ds
    obtain ⟨p, xs, h1, h2, h3⟩ := hb
    exact fl ds h ⟨p, xs, h1, .inr (tup_sq h2), h3⟩
  · cases h
theorem cm_notIn : Cm2 rNotInA notInQ := fun K H a b c v w Q h ha hb q => by
  obtain ⟨c', h0, h2⟩ := omap h
  clear h
  subst h2
  have h := h0
  clear h0
  have fl : ∀ ds : List D, inFlat a ds = some c' → (∃ p xs, w = .ref p ∧ (SqL K H p xs ∨ SqT K H p xs) ∧ RpDs K H ds xs) → rNotInA K v w H Q := fun ds h ⟨p, xs, h1, h2, h3⟩ => by
    obtain ⟨v', g1, g2⟩ := obind h
    obtain ⟨vs, g3, g4⟩ := obind g2
    by_cases hf : (flatV v' && vs.all flatV) = true
    · rw [if_pos hf] at g4
      cases g4
      rw [Bool.and_eq_true] at hf
      have e1 := toV_rp g1 ha
      have e2 := toVs_rp g3 h3
      subst e1; subst e2
      exact .inr (.inr ⟨p, xs, h1, h2, hf.1, hf.2, q⟩)
    · rw [if_neg hf] at g4; cases g4
  unfold inQ at h
  split at h
  · rename_i s t
    cases h
    unfold inStr at q
    split at q
    · rename_i c e
      rw [show v = _ from ha, str_one e]
      exact .inl ⟨c, t, rfl, hb, q⟩
    · exact .inr (.inl ⟨s, t, ha, hb, q⟩)
  · rename_i ds
    obtain ⟨p, xs, h1, h2, h3⟩ := hb
    exact fl ds h ⟨p, xs, h1, .inl (.inl h2), h3⟩
  · rename_i ds
    obtain ⟨p, xs, h1, h2, h3⟩ := hb
    exact fl ds h ⟨p, xs, h1, .inr (tup_sq h2), h3⟩
  · cases h
def cT (f : EF) : CF := fun env => (f env).bind fun r => match r.1 with | .p (.bl b) => some (b, r.2) | _ => none
theorem EvT.test {K : KW} {te : TE} {f : EF} (h : EvT K te f) : EvC K (tTest te) (cT f) := by
  intro G0 H0 W H ts vs env σ c env' S e Q q
  obtain ⟨⟨t, e1⟩, h1, h2⟩ := obind e
  cases t with
  | p d =>
    cases d with
    | bl b =>
      cases h2
      exact h _ _ _ _ _ _ _ _ _ _ S h1 _ fun v H' s S' => ⟨c, S'.top, q H' s S'.pop⟩
    | _ => cases h2
  | _ => cases h2
def cNot (c : CF) : CF := fun env => (c env).map fun r => (!r.1, r.2)
def cAnd (c d : CF) : CF := fun env => (c env).bind fun r => if r.1 then d r.2 else some (false, r.2)
def cOr (c d : CF) : CF := fun env => (c env).bind fun r => if r.1 then some (true, r.2) else d r.2
structure DW (X : Cx) (e : Expr) (tc : TT) (f : CF) : Prop where
  pt : PW X e tc
  ok : EvC X.kw tc f
def eIf (c : CF) (fa fb : EF) : EF := fun env => (c env).bind fun r => if r.1 then fa r.2 else fb r.2
section
variable {X : Cx} {a b e : Expr} {es rest : List Expr} {ta tb te : TE} {tc td : TT} {fa fb f : EF} {c d : CF} {pos : Pos}
theorem dc_val (h : DT X e te f) (he : ∀ whole, isTrue e X.env whole = (do let v ← whole; standAt e.pos; holding [v] (truthy v)) := by intro _; rfl) : DC X e (tB te) (cT f) := ⟨pt_val h.pe he, h.ok.test⟩
theorem dt_cmp {op : CmpOp} {r : PySem.W.Frag → R2} {g : D → D → Option Bool} (ho : OpR X (compareOp op) (r X.K)) (hr : Cm2 r g) (ha : DV X a ta fa) (hb : DV X b tb fb) (hm : behindInMarks op b = false) : DT X (.Compare a [op] [b] pos) (tOp (r X.K) ta tb) (eCmp g fa fb) := ⟨pe_cmpR ho ha.pe hb.pe hm, ev_cmp hr ha.ok hb.ok⟩
theorem dc_cmp {op : CmpOp} {r : PySem.W.Frag → R2} {g : D → D → Option Bool} (ho : OpR X (compareOp op) (r X.K)) (hr : Cm2 r g) (ha : DV X a ta fa) (hb : DV X b tb fb) (hm : behindInMarks op b = false) : DC X (.Compare a [op] [b] pos) (tTest (tOp (r X.K) ta tb)) (cT (eCmp g fa fb)) := ⟨pt_cmpR ho ha.pe hb.pe hm, (ev_cmp hr ha.ok hb.ok).test⟩
theorem dc_not (h : DC X a tc c) : DC X (.UnaryOp .Not a pos) (tNot tc) (cNot c) := by
  refine ⟨pt_not h.pt, ?_⟩
  intro G0 H0 W H ts vs env σ k env' S e Q q
  obtain ⟨⟨b, e1⟩, h1, h2⟩ := omap e
  cases h2
  exact h.ok _ _ _ _ _ _ _ _ _ _ S h1 _ fun H' s S' => q H' s S'
theorem dw_and1 (h : DC X a tc c) : DW X (.BoolOp .And [a] pos) tc c := ⟨pw_and1 h.pt, h.ok⟩
theorem dw_or1 (h : DC X a tc c) : DW X (.BoolOp .Or [a] pos) tc c := ⟨pw_or1 h.pt, h.ok⟩
theorem dw_and (h : DC X a tc c) (h2 : DW X (.BoolOp .And (b :: rest) pos) td d) : DW X (.BoolOp .And (a :: b :: rest) pos) (tAnd tc td) (cAnd c d) := by
  refine ⟨pw_and h.pt h2.pt, ?_⟩
  intro G0 H0 W H ts vs env σ k env' S e Q q
  obtain ⟨⟨b, e1⟩, g1, g2⟩ := obind e
  refine h.ok _ _ _ _ _ _ _ _ _ _ S g1 _ fun H' s S' => ?_
  cases b with
  | true => rw [if_pos rfl]; exact h2.ok _ _ _ _ _ _ _ _ _ _ S' g2 _ fun H2 s2 S2 => q H2 (s.trans s2) S2
  | false => rw [if_neg Bool.false_ne_true]; cases g2; exact q H' s S'
theorem dw_or (h : DC X a tc c) (h2 : DW X (.BoolOp .Or (b :: rest) pos) td d) : DW X (.BoolOp .Or (a :: b :: rest) pos) (tOr tc td) (cOr c d) := by
  refine ⟨pw_or h.pt h2.pt, ?_⟩
  intro G0 H0 W H ts vs env σ k env' S e Q q
  obtain ⟨⟨b, e1⟩, g1, g2⟩ := obind e
  refine h.ok _ _ _ _ _ _ _ _ _ _ S g1 _ fun H' s S' => ?_
  cases b with
  | true => rw [if_pos rfl]; cases g2; exact q H' s S'
  | false => rw [if_neg Bool.false_ne_true]; exact h2.ok _ _ _ _ _ _ _ _ _ _ S' g2 _ fun H2 s2 S2 => q H2 (s.trans s2) S2
theorem DW.dc (h : DW X e tc c) : DC X e tc c := ⟨h.pt.pt, h.ok⟩
def eAnd (fa fb : EF) : EF := fun env => (cT fa env).bind fun r => if r.1 then fb r.2 else some (.p (.bl false), r.2)
def eOr (fa fb : EF) : EF := fun env => (cT fa env).bind fun r => if r.1 then some (.p (.bl true), r.2) else fb r.2
def eNot (fa : EF) : EF := fun env => (cT fa env).map fun r => (.p (.bl (!r.1)), r.2)
def eChain (f g : Int → Int → Bool) (fa fb fc : EF) : EF := fun env => (fa env).bind fun x => (fb x.2).bind fun y => match x.1, y.1 with
  | .p (.int i), .p (.int j) => if f i j then (fc y.2).bind fun z => match z.1 with | .p (.int k) => some (.p (.bl (g j k)), z.2) | _ => none
    else some (.p (.bl false), y.2)
  | _, _ => none
end
end DL
namespace DL
open PySem PySem.Spec PyProof.Rows L2
def itemsT : T → Option (List D)
  | .p (.lst ds) => some ds
  | .p (.tup ds) => some ds
  | .lst ts => allP ts
  | .tup ts => allP ts
  | _ => none
def isLT : T → Bool
  | .p (.lst _) => true
  | .lst _ => true
  | _ => false
section
variable {K : KW} {G0 H0 H : Hp} {W : List (T × V)} {ts : List T} {vs : List V} {env : Env} {σ : St} {t : T} {v : V}
theorem OkS.pushD {G : Hp} {ot oe : List Addr} : ∀ {ds : List D} {xs : List V}, St0 K G0 H0 W G H ts vs env σ ot oe → RpDs K G ds xs → OkS K G0 H0 W H (ds.map T.p ++ ts) (xs ++ vs) env σ := fun {ds xs} s h =>
  ⟨G, ot, oe, (rpTs_p h).append s.tmp, s.env, s.nd, s.fr, s.g0, s.gh, s.h0, s.nw, s.vw⟩
theorem OkS.items {ds : List D} (S : OkS K G0 H0 ((t, v) :: W) H ts vs env σ) (h : itemsT t = some ds) :
    ∃ a xs, v = .ref a ∧ (isLT t = true → SqL K H a xs) ∧ (isLT t = false → SqT K H a xs) ∧ xs.length = ds.length ∧ OkS K G0 H0 W H (ds.map T.p ++ ts) (xs ++ vs) env σ := by
  obtain ⟨G, ot, oe, s⟩ := S
  obtain ⟨o, r⟩ := s.vw (t, v) (by simp)
  have s' : St0 K G0 H0 W G H ts vs env σ ot oe := ⟨s.tmp, s.env, s.nd, s.fr, s.g0, s.gh, s.h0, s.nw, fun q hq => s.vw q (List.mem_cons_of_mem _ hq)⟩
  cases t with
  | p d =>
    cases d with
    | lst ds' =>
      cases h
      obtain ⟨⟨a, xs, e1, e2, e3⟩, _⟩ := r
      exact ⟨a, xs, e1, fun _ => s.gh.seq (.inl e2), (fun z => by cases z), e3.len, OkS.pushD s' e3⟩
    | tup ds' =>
      cases h
      obtain ⟨⟨a, xs, e1, e2, e3⟩, _⟩ := r
      exact ⟨a, xs, e1, (fun z => by cases z), fun _ => tup_seq s.gh e2, e3.len, OkS.pushD s' e3⟩
    | _ => cases h
  | lst us =>
    have e := allP_eq (show allP us = some ds from h)
    subst e
    obtain ⟨a, xs, o', e1, e2, e3, e4⟩ := r
    obtain ⟨k1, k2⟩ := rpDs_of e3
    exact ⟨a, xs, e1, fun _ => .inl (.inl e2), (fun z => by cases z), k1.len, OkS.pushD s' k1⟩
  | tup us =>
    have e := allP_eq (show allP us = some ds from h)
    subst e
    obtain ⟨a, xs, e1, e2, e3⟩ := r
    obtain ⟨k1, k2⟩ := rpDs_of e3
    exact ⟨a, xs, e1, (fun z => by cases z), fun _ => tup_seq s.gh e2, k1.len, OkS.pushD s' k1⟩
  | dic _ => cases h
  | dit _ => cases h
  | obj _ _ => cases h
  | box _ _ => cases h
  | al _ => cases h
  | din _ => cases h
end
def lenD : D → Option Int
  | .lst ds => some ds.length
  | .tup ds => some ds.length
  | .tux ds => some ds.length
  | .str s => if s.length ≤ 16777216 then some s.length else none
  | .dic kvs => none
  | _ => none
def lenT : T → Option Int
  | .p d => lenD d
  | .lst ts => some ts.length
  | .tup ts => some ts.length
  | .dic ts => none
  | _ => none
theorem toDs_length : ∀ ts : List T, (T.toDs ts).length = ts.length
  | [] => rfl
  | t :: ts => by rw [T.toDs, List.length_cons, toDs_length ts, List.length_cons]
theorem lenT_D {t : T} {n : Int} (h : lenT t = some n) : lenD t.toD = some n := by
  cases t with
  | p d => exact h
  | lst ts => rw [← h]; show some ((T.toDs ts).length : Int) = some (ts.length : Int); rw [toDs_length]
  | tup ts => rw [← h]; show some ((T.toDs ts).length : Int) = some (ts.length : Int); rw [toDs_length]
  | dic _ => cases h
  | dit _ => cases h
  | obj _ _ => cases h
  | box _ _ => cases h
  | al _ => cases h
  | din _ => cases h
def eB1 (g : T → Option D) (f : EF) : EF := fun env => (f env).bind fun r => (g r.1).map fun d => (.p d, r.2)
def Bi1 (r : PySem.W.Frag → List V → Hp → VK → Prop) (g : T → Option D) : Prop := ∀ (K : KW) (H : Hp) (t : T) (d : D) (v : V) (Q : VK), g t = some d → RpD K H t.toD v → (∀ u, (∀ G, RpD K G d u) → Q u H) → r K [v] H Q
theorem ev_b1 {K : KW} {r : PySem.W.Frag → List V → Hp → VK → Prop} {g : T → Option D} {te : TE} {f : EF} (hr : Bi1 r g) (h : EvV K te f) : EvT K (tCB (r K) (tCons te tNil)) (eB1 g f) := by
  intro G0 H0 W H ts vs env σ t env' S e Q q
  obtain ⟨⟨x, e1⟩, h1, h2⟩ := obind e
  obtain ⟨d, h3, h4⟩ := omap h2
  cases h4
  refine h _ _ _ _ _ _ _ _ _ _ S h1 _ fun v H1 s1 S1 => ?_
  exact hr K H1 x d v Q h3 (S1.see (q := (x, v)) (by simp)) fun u hu => q u H1 s1 (S1.unview.scal hu)
section
variable {X : Cx} {e a b : Expr} {te ta tb : TE} {f fa fb : EF} {p pos : Pos} {x : Str}
theorem dt_b1 {id : String} {r : PySem.W.Frag → List V → Hp → VK → Prop} {g : T → Option D} (hc : CallR X (.builtin id) (r X.K)) (hr : Bi1 r g) (hg : Gl X x) (hm : X.mg x = none) (hv : bootBuiltins x = some (.builtin id)) (h : DV X e te f)
    (hs : starEach [e] X.env = (false, eval e X.env) :: starEach [] X.env := by rfl) (hn : x ≠ "__name__" := by decide) (hdb : (x == ("__debug__" : Str)) = false := by decide) : DT X (.Call (.Name x p) [e] [] pos) (tCB (r X.K) (tCons te tNil)) (eB1 g f) :=
  ⟨pe_callB hc hg hm hv (pa_cons h.pe pa_nil hs) hn hdb hs, ev_b1 hr h.ok⟩
end
def rLenA (K : PySem.W.Frag) : List V → Hp → VK → Prop := fun xs H Q => (∃ p ys, xs = [.ref p] ∧ (SqL K H p ys ∨ SqT K H p ys) ∧ Q (.int ys.length) H) ∨ ∃ z, xs = [.str z] ∧ z.length ≤ sizeLine ∧ Q (.int z.length) H
theorem call_lenA {X : Cx} : CallR X (.builtin "len") (rLenA X.K) := call_len_seq.or call_len_str
def gLen (t : T) : Option D := (lenT t).map D.int
theorem bi_len : Bi1 rLenA gLen := by
  intro K H t d v Q h r q
  obtain ⟨n, h1, h2⟩ := omap h
  subst h2
  have h3 := lenT_D h1
  cases hd : t.toD with
  | lst ds =>
    rw [hd] at h3 r
    obtain ⟨a, xs, e1, e2, e3⟩ := r
    cases h3
    exact .inl ⟨a, xs, by rw [e1], .inl (.inl e2), by rw [e3.len]; exact q _ fun _ => rfl⟩
  | tup ds =>
    rw [hd] at h3 r
    obtain ⟨a, xs, e1, e2, e3⟩ := r
    cases h3
    exact .inl ⟨a, xs, by rw [e1], .inr (tup_sq e2), by rw [e3.len]; exact q _ fun _ => rfl⟩
  | str s =>
    rw [hd] at h3 r
    have h3 : (if s.length ≤ 16777216 then some (s.length : Int) else none) = some n := h3
    by_cases hs : s.length ≤ 16777216
    · rw [if_pos hs] at h3
      cases h3
      exact .inr ⟨s, by rw [show v = _ from r], by rw [sizeLine_eq]; exact hs, q _ fun _ => rfl⟩
    · rw [if_neg hs] at h3; cases h3
  | non => rw [hd] at h3; cases h3
  | bl _ => rw [hd] at h3; cases h3
  | int _ => rw [hd] at h3; cases h3
  | dic _ => rw [hd] at h3; cases h3
  | dit _ => rw [hd] at h3; cases h3
  | obj _ _ => rw [hd] at h3; cases h3
  | al _ => rw [hd] at h3; cases h3
  | din _ => rw [hd] at h3; cases h3
  | tux ds =>
    rw [hd] at h3 r
    obtain ⟨a, o, xs, e1, e2, e4, e3⟩ := r
    cases h3
    exact .inl ⟨a, xs, by rw [e1], .inr (.inl (.inr ⟨o, e2⟩)), by rw [e3.len]; exact q _ fun _ => rfl⟩
def intsD : List D → Option (List Int)
  | [] => some []
  | .int i :: r => (intsD r).map (i :: ·)
  | _ => none
@[simp] theorem intsD_map : ∀ ns : List Int, intsD (ns.map D.int) = some ns
  | [] => rfl
  | n :: ns => by show (intsD (ns.map D.int)).map (n :: ·) = _; rw [intsD_map ns]; rfl
def listD : D → Option (List D)
  | .lst ds => some ds
  | _ => none
def gSum (t : T) : Option D := (listD t.toD).bind fun ds => (intsD ds).map fun ns => .int ns.sum
def eI2 (g : Int → Int → Int) (fr : AF) : EF := fun env => (fr env).bind fun r => match r.1 with
  | [.p (.int i), .p (.int j)] => some (.p (.int (g i j)), r.2)
  | _ => none
section
variable {X : Cx} {e a b : Expr} {es : List Expr} {ta : TA} {fr : AF} {p pos : Pos} {x : Str}
end
def maxI (i j : Int) : Int := if j > i then j else i
def minI (i j : Int) : Int := if j < i then j else i
def gStr : T → Option D
  | .p (.str s) => some (.str s)
  | .p (.int i) => if i.natAbs < 1606938044258990275541962092341162602522202993782792835301376 then some (.str (toString i)) else none
  | _ => none
def tyD : D → String
  | .non => "NoneType" | .bl _ => "bool" | .int _ => "int" | .str _ => "str" | .lst _ => "list" | .tup _ => "tuple" | .dic _ => "dict" | .tux _ => "tuple" | _ => "dict"
def tyOk : D → Bool
  | .obj _ _ => false
  | .al _ => false
  | .din _ => false
  | .dit _ => false
  | .dic _ => false
  | _ => true
theorem tyD_x {K : KW} {H : Hp} {d : D} {v : V} (r : RpD K H d v) (hok : tyOk d = true) : TyX K H v (.type (tyD d)) := by
  cases d with
  | non => rw [show v = _ from r]; exact .base .non
  | bl b => rw [show v = _ from r]; exact .base (.bl b)
  | int i => rw [show v = _ from r]; exact .base (.int i)
  | str s => rw [show v = _ from r]; exact .base (.str s)
  | lst ds =>
    obtain ⟨a, xs, rfl, h, _⟩ := r
    rcases h with h | ⟨o, h⟩
    · exact .base (.lst h)
    · exact .base (.frz h)
  | tup ds =>
    obtain ⟨a, xs, rfl, h, _⟩ := r
    exact .base (.tup h)
  | tux ds =>
    obtain ⟨a, o, xs, rfl, h, _⟩ := r
    exact .fTuple h
  | dic ds => cases hok
  | dit _ => cases hok
  | obj _ _ => cases hok
  | al _ => cases hok
  | din _ => cases hok
def eIsi (ty : String) (f : EF) : EF := fun env => (f env).bind fun r => if tyOk r.1.toD = true then (kitB (tyD r.1.toD) ty).map fun b => (.p (.bl b), r.2) else none
theorem dt_isi {X : Cx} {e : Expr} {te : TE} {f : EF} {p pos p2 : Pos} {ty : String} {x : Str} (hg : Gl X "isinstance") (hm : X.mg "isinstance" = none) (h : DV X e te f) (hgT : Gl X x) (hmT : X.mg x = none) (hvT : bootBuiltins x = some (.type ty))
    (hv : bootBuiltins "isinstance" = some (.builtin "isinstance") := by decide +kernel) (hs : starEach [e, .Name x p2] X.env = (false, eval e X.env) :: starEach [.Name x p2] X.env := by rfl) (hs2 : starEach [.Name x p2] X.env = (false, eval (.Name x p2) X.env) :: starEach [] X.env := by rfl) (hn : x ≠ "__name__" := by decide) (hd : (x == ("__debug__" : Str)) = false := by decide) :
    DT X (.Call (.Name "isinstance" p) [e, .Name x p2] [] pos) (tCB (rIsi X.K) (tCons te (tCons (tC (.ty ty)) tNil))) (eIsi ty f) := by
  refine ⟨pe_callB call_isi hg hm hv (pa_cons h.pe (pa_cons (pe_bltn hgT hmT hvT (show RelV (.ty ty) (.type ty) from rfl) hn hd) pa_nil hs2) hs) (by decide) (by decide) hs (by rw [hs2]; rfl), ?_⟩
  intro G0 H0 W H ts vs env σ t env' S e Q q
  obtain ⟨⟨u, e1⟩, h1, h2⟩ := obind e
  have hk : tyOk u.toD = true := by
    by_cases c : tyOk u.toD = true
    · exact c
    · rw [if_neg (show ¬ tyOk (u, e1).1.toD = true from c)] at h2; cases h2
  rw [if_pos (show tyOk (u, e1).1.toD = true from hk)] at h2
  obtain ⟨b, h3, h4⟩ := omap h2
  cases h4
  refine h.ok _ _ _ _ _ _ _ _ _ _ S h1 _ fun v H1 s1 S1 => ?_
  exact ⟨v, .ty ty, _, _, b, rfl, .ty ty, tyD_x (S1.see (q := (u, v)) (by simp)) hk, kit_ty h3, q _ H1 s1 (S1.unview.scal fun _ => rfl)⟩
def eList (f : EF) : EF := fun env => (f env).bind fun r => (itemsT r.1).map fun ds => (.lst (ds.map T.p), r.2)
def eTuple (f : EF) : EF := fun env => (f env).bind fun r => (itemsT r.1).map fun ds => (.p (.tup ds), r.2)
section
variable {X : Cx} {e a b : Expr} {te ta tb : TE} {f fa fb : EF} {p pos : Pos}
theorem dt_list (hg : Gl X "list") (hm : X.mg "list" = none) (h : DV X e te f) (hv : bootBuiltins "list" = some (.type "list") := by decide +kernel) (hs : starEach [e] X.env = (false, eval e X.env) :: starEach [] X.env := by rfl) :
    DT X (.Call (.Name "list" p) [e] [] pos) (tCB (fun xs H Q => ∃ p ys, xs = [.ref p] ∧ (SqL X.K H p ys ∨ SqT X.K H p ys) ∧ ∀ l, H l = none → Q (.ref l) (upd H l (.lst ys))) (tCons te tNil)) (eList f) := by
  refine ⟨pe_callTy call_list_of hg hm hv (pa_cons h.pe pa_nil hs) (by decide) (by decide) hs, ?_⟩
  intro G0 H0 W H ts vs env σ t env' S e Q q
  obtain ⟨⟨u, e1⟩, h1, h2⟩ := obind e
  obtain ⟨ds, h3, h4⟩ := omap h2
  cases h4
  refine h.ok _ _ _ _ _ _ _ _ _ _ S h1 _ fun v H1 s1 S1 => ?_
  obtain ⟨a, xs, rfl, k1, k2, k3, S2⟩ := S1.items h3
  refine ⟨a, xs, rfl, ?_, fun l hl => q _ _ (s1.trans (same_upd hl)) (S2.newL (by rw [List.length_map]; exact k3) hl)⟩
  cases hk : isLT u with
  | true => exact .inl (k1 hk)
  | false => exact .inr (k2 hk)
end
end DL
namespace DL
open PySem PySem.Spec PyProof.Rows L2
def ixT : T → Int → Option T
  | .p (.lst ds), i => (atI ds i).map T.p
  | .p (.tup ds), i => (atI ds i).map T.p
  | .p (.tux ds), i => (atI ds i).map T.p
  | .p (.str z), i => if z.length ≤ 16777216 then (atI z.cps.toList i).map fun c => .p (.str ⟨#[c]⟩) else none
  | .lst ts, i => atI ts i
  | .tup ts, i => atI ts i
  | _, _ => none
section
variable {K : KW} {G0 H0 H G : Hp} {W : List (T × V)} {ts : List T} {vs : List V} {env : Env} {σ : St} {t : T} {v : V}
theorem atI_ix {α : Type} {xs : List α} {i : Int} {x : α} (h : atI xs i = some x) : ∃ j, ixN xs.length i = some j ∧ xs[j]? = some x := obind h
theorem atI_of {α : Type} {xs : List α} {n : Nat} {i : Int} {j : Nat} {x : α} (h : ixN n i = some j) (hn : xs.length = n) (hx : xs[j]? = some x) : atI xs i = some x := by
  unfold atI
  rw [hn, h]; exact hx
theorem RpTs.get : ∀ {ts : List T} {vs : List V} {o : List Addr} {i : Nat} {t : T}, RpTs K G H ts vs o → ts[i]? = some t → ∃ v o1, vs[i]? = some v ∧ Rp K G H t v o1
  | [], _, _, _, _, _, e => by simp at e
  | t :: ts, _, _, 0, t', ⟨v, r, o1, o2, h1, h2, h3, h4⟩, e => by
    simp at e; subst e; subst h1; exact ⟨v, o1, rfl, h2⟩
  | t :: ts, _, _, i + 1, t', ⟨v, r, o1, o2, h1, h2, h3, h4⟩, e => by
    subst h1
    obtain ⟨u, p, h5, h6⟩ := RpTs.get (i := i) h3 (by simpa using e)
    exact ⟨u, p, by simpa using h5, h6⟩
theorem OkS.ix {i : Int} {t' : T} (S : OkS K G0 H0 ((t, v) :: W) H ts vs env σ) (h : ixT t i = some t') :
    (∃ a xs v', v = .ref a ∧ (SqL K H a xs ∨ SqT K H a xs) ∧ (isLT t = true → SqL K H a xs) ∧ atI xs i = some v' ∧ OkS K G0 H0 ((t', v') :: W) H ts vs env σ) ∨ ∃ z c, v = .str z ∧ z.length ≤ sizeLine ∧ atI z.cps.toList i = some c ∧ t' = .p (.str ⟨#[c]⟩) := by
  obtain ⟨G, ot, oe, s⟩ := S
  obtain ⟨o, r⟩ := s.vw (t, v) (by simp)
  have mk : ∀ v' o', Rp K G H t' v' o' → OkS K G0 H0 ((t', v') :: W) H ts vs env σ := fun v' o' r' => ⟨G, ot, oe, s.tmp, s.env, s.nd, s.fr, s.g0, s.gh, s.h0, s.nw, fun q hq => by
    rcases List.mem_cons.mp hq with e | hq
    · subst e; exact ⟨o', r'⟩
    · exact s.vw q (List.mem_cons_of_mem _ hq)⟩
  cases t with
  | p d =>
    cases d with
    | lst ds =>
      obtain ⟨d, h1, h2⟩ := omap (show (atI ds i).map T.p = some t' from h)
      subst h2
      obtain ⟨⟨a, xs, e1, e2, e3⟩, _⟩ := r
      obtain ⟨j, k1, k2⟩ := atI_ix h1
      obtain ⟨v', k3, k4⟩ := e3.get k2
      exact .inl ⟨a, xs, v', e1, .inl (s.gh.seq (.inl e2)), (fun _ => s.gh.seq (.inl e2)), atI_of k1 e3.len k3, mk v' [] ⟨k4, rfl⟩⟩
    | tup ds =>
      obtain ⟨d, h1, h2⟩ := omap (show (atI ds i).map T.p = some t' from h)
      subst h2
      obtain ⟨⟨a, xs, e1, e2, e3⟩, _⟩ := r
      obtain ⟨j, k1, k2⟩ := atI_ix h1
      obtain ⟨v', k3, k4⟩ := e3.get k2
      exact .inl ⟨a, xs, v', e1, .inr (tup_seq s.gh e2), (fun z => by cases z), atI_of k1 e3.len k3, mk v' [] ⟨k4, rfl⟩⟩
    | tux ds =>
      obtain ⟨d, h1, h2⟩ := omap (show (atI ds i).map T.p = some t' from h)
      subst h2
      obtain ⟨⟨a, ob, xs, e1, e2, e5, e3⟩, _⟩ := r
      obtain ⟨j, k1, k2⟩ := atI_ix h1
      obtain ⟨v', k3, k4⟩ := e3.get k2
      exact .inl ⟨a, xs, v', e1, .inr (.inl (.inr ⟨ob, s.gh _ _ e2⟩)), (fun z => by cases z), atI_of k1 e3.len k3, mk v' [] ⟨k4, rfl⟩⟩
    | str z =>
      have h : (if z.length ≤ 16777216 then (atI z.cps.toList i).map fun c => T.p (.str ⟨#[c]⟩) else none) = some t' := h
      by_cases hz : z.length ≤ 16777216
      · rw [if_pos hz] at h
        obtain ⟨c, h1, h2⟩ := omap h
        exact .inr ⟨z, c, r.1, by rw [sizeLine_eq]; exact hz, h1, h2.symm⟩
      · rw [if_neg hz] at h; cases h
    | _ => cases h
  | lst us =>
    obtain ⟨a, xs, o', e1, e2, e3, e4⟩ := r
    obtain ⟨j, k1, k2⟩ := atI_ix (show atI us i = some t' from h)
    obtain ⟨v', o1, k3, k4⟩ := e3.get k2
    exact .inl ⟨a, xs, v', e1, .inl (.inl (.inl e2)), (fun _ => .inl (.inl e2)), atI_of k1 e3.len k3, mk v' o1 k4⟩
  | tup us =>
    obtain ⟨a, xs, e1, e2, e3⟩ := r
    obtain ⟨j, k1, k2⟩ := atI_ix (show atI us i = some t' from h)
    obtain ⟨v', o1, k3, k4⟩ := e3.get k2
    exact .inl ⟨a, xs, v', e1, .inr (tup_seq s.gh e2), (fun z => by cases z), atI_of k1 e3.len k3, mk v' o1 k4⟩
  | dic _ => cases h
  | dit _ => cases h
  | obj _ _ => cases h
  | box _ _ => cases h
  | al _ => cases h
  | din _ => cases h
theorem OkS.viewS {z : D} {u : V} (S : OkS K G0 H0 W H ts vs env σ) (h : ∀ G, RpD K G z u) : OkS K G0 H0 ((.p z, u) :: W) H ts vs env σ := (S.scal h).toview
end
def eIx (fa fi : EF) : EF := fun env => (fa env).bind fun r => (fi r.2).bind fun s => match s.1 with
  | .p (.int i) => (ixT r.1 i).map fun t => (t, s.2)
  | _ => none
section
variable {X : Cx} {e a b : Expr} {te ta tb : TE} {f fa fb : EF} {p pos : Pos}
theorem dv_ix (ha : DV X a ta fa) (hb : DT X b tb fb) (hs : PlainIx b := by exact fun _ _ => rfl) : DV X (.Subscript a b pos) (tOp (rIx X.K) ta tb) (eIx fa fb) := by
  refine ⟨pe_ix ix_seq ha.pe hb.pe hs, ?_⟩
  intro G0 H0 W H ts vs env σ t env' S g Q q
  obtain ⟨⟨x, e1⟩, h1, h2⟩ := obind g
  obtain ⟨⟨y, e2⟩, h3, h4⟩ := obind h2
  dsimp only at h4
  split at h4
  · rename_i i
    obtain ⟨t', h5, h6⟩ := omap h4
    cases h6
    refine ha.ok _ _ _ _ _ _ _ _ _ _ S h1 _ fun v H1 s1 S1 => ?_
    refine hb.ok _ _ _ _ _ _ _ _ _ _ S1 h3 _ fun w H2 s2 S2 => ?_
    have ew : w = .int i := S2.top
    subst ew
    rcases S2.pop.ix h5 with ⟨a, xs, v', e1, e2, _, e3, S3⟩ | ⟨z, c, e1, e2, e3, e4⟩
    · rcases e2 with e2 | e2
      · exact .inl ⟨a, xs, i, v', e1, rfl, e2, e3, q _ H2 (s1.trans s2) S3⟩
      · exact .inr (.inl ⟨a, xs, i, v', e1, rfl, e2, e3, q _ H2 (s1.trans s2) S3⟩)
    · subst e4
      exact .inr (.inr ⟨z, i, c, e1, rfl, e2, e3, q _ H2 (s1.trans s2) (S2.pop.unview.viewS fun _ => rfl)⟩)
  · cases h4
end
abbrev OF := Env → Option (Option Int × Env)
def EvO (K : KW) (to : TO) (f : OF) : Prop := ∀ (G0 H0 : Hp) (W : List (T × V)) (H : Hp) (ts : List T) (vs : List V) (env : Env) (σ : St) (o : Option Int) (env' : Env), OkS K G0 H0 W H ts vs env σ → f env = some (o, env') →
  ∀ Q : Option Int → Hp → Prop, (∀ H', Same H H' → OkS K G0 H0 W H' ts vs env' σ → Q o H') → to σ H Q
structure DO (X : Cx) (e : Option Expr) (to : TO) (f : OF) : Prop where
  po : PO X e to
  ok : EvO X.kw to f
def oN : OF := fun env => some (none, env)
def oS (f : EF) : OF := fun env => (f env).bind fun r => match r.1 with | .p (.int i) => some (some i, r.2) | _ => none
def cutD (ds : List D) (lo hi : Option Int) : List D := (ds.drop (HT.sIx ds.length 0 lo)).take (HT.sIx ds.length ds.length hi - HT.sIx ds.length 0 lo)
def cutT (t : T) (lo hi : Option Int) : Option T := match t with
  | .p (.str z) => if z.length ≤ 16777216 then some (.p (.str (cutS z lo hi))) else none
  | .p (.lst ds) => some (.lst ((cutD ds lo hi).map T.p))
  | .lst ts => (allP ts).map fun ds => .lst ((cutD ds lo hi).map T.p)
  | .p (.tup ds) => if HT.sIx ds.length 0 lo = 0 ∧ HT.sIx ds.length ds.length hi = ds.length then none else some (.p (.tup (cutD ds lo hi)))
  | _ => none
def eSl (fa : EF) (lo hi : OF) : EF := fun env => (fa env).bind fun r => (lo r.2).bind fun l => (hi l.2).bind fun u => (cutT r.1 l.1 u.1).map fun t => (t, u.2)
theorem RpDs.cut {K : KW} {G : Hp} {ds : List D} {xs : List V} (h : RpDs K G ds xs) (lo hi : Option Int) : RpDs K G (cutD ds lo hi) (cutV xs lo hi) := by
  unfold cutD cutV
  rw [h.len]
  exact (h.drop _).take _
def rSlA (K : PySem.W.Frag) : V → Option Int → Option Int → Hp → VK → Prop := fun x lo hi H Q => rSlL K x lo hi H Q ∨ rSlT K x lo hi H Q ∨ rSlS x lo hi H Q
theorem sl_any {X : Cx} : SlR X (rSlA X.K) := sl_list.or (sl_tup.or sl_str)
section
variable {X : Cx} {e : Expr} {te : TE} {f : EF} {lo hi : Option Expr} {tl th : TO} {fl fh : OF} {pos p2 : Pos}
theorem do_none : DO X none tNoPart oN := ⟨po_none, fun _ _ _ H _ _ _ _ _ _ S e Q q => by cases e; exact q H (Same.refl _) S⟩
theorem do_some (h : DT X e te f) : DO X (some e) (tPart te) (oS f) := by
  refine ⟨po_some h.pe, ?_⟩
  intro G0 H0 W H ts vs env σ o env' S g Q q
  obtain ⟨⟨x, e1⟩, h1, h2⟩ := obind g
  dsimp only at h2
  split at h2
  · rename_i i
    cases h2
    exact h.ok _ _ _ _ _ _ _ _ _ _ S h1 _ fun v H1 s1 S1 => ⟨i, S1.top, q H1 s1 S1.pop⟩
  · cases h2
theorem dt_sl (h : DV X e te f) (hl : DO X lo tl fl) (hh : DO X hi th fh) : DT X (.Subscript e (.Slice lo hi none p2) pos) (tSl (rSlA X.K) te tl th) (eSl f fl fh) := by
  refine ⟨pe_slice sl_any h.pe hl.po hh.po, ?_⟩
  intro G0 H0 W H ts vs env σ t env' S g Q q
  obtain ⟨⟨x, e1⟩, h1, h2⟩ := obind g
  obtain ⟨⟨l, e2⟩, h3, h4⟩ := obind h2
  obtain ⟨⟨u, e3⟩, h5, h6⟩ := obind h4
  obtain ⟨t', h7, h8⟩ := omap h6
  cases h8
  refine h.ok _ _ _ _ _ _ _ _ _ _ S h1 _ fun v H1 s1 S1 => ?_
  refine hl.ok _ _ _ _ _ _ _ _ _ _ S1 h3 _ fun H2 s2 S2 => ?_
  refine hh.ok _ _ _ _ _ _ _ _ _ _ S2 h5 _ fun H3 s3 S3 => ?_
  have s13 := (s1.trans s2).trans s3
  have lst : ∀ ds, itemsT x = some ds → isLT x = true → t = .lst ((cutD ds l u).map T.p) → rSlA X.K v l u H3 Q := fun ds hi hL ht => by
    obtain ⟨G, ot, oe, s⟩ := S3
    obtain ⟨o, r⟩ := s.vw (x, v) (by simp)
    have s' : St0 X.kw G0 H0 W G H3 ts vs _ σ ot oe := ⟨s.tmp, s.env, s.nd, s.fr, s.g0, s.gh, s.h0, s.nw, fun q hq => s.vw q (List.mem_cons_of_mem _ hq)⟩
    obtain ⟨a, xs, rfl, k1, _, _, _⟩ := OkS.items ⟨G, ot, oe, s⟩ hi
    have rp : ∃ xs, SqL X.K H3 a xs ∧ RpDs X.kw G ds xs := by
      cases x with
      | p d =>
        cases d with
        | lst ds' =>
          cases hi
          obtain ⟨⟨a', xs', e1, e2, e3⟩, _⟩ := r
          cases e1
          exact ⟨xs', s.gh.seq (.inl e2), e3⟩
        | tup ds' => cases hL
        | _ => cases hi
      | lst us =>
        have e := allP_eq (show allP us = some ds from hi)
        subst e
        obtain ⟨a', xs', o', e1, e2, e3, e4⟩ := r
        cases e1
        exact ⟨xs', .inl (.inl e2), (rpDs_of e3).1⟩
      | tup us => cases hL
      | dic _ => cases hi
      | dit _ => cases hi
      | obj _ _ => cases hi
      | box _ _ => cases hi
      | al _ => cases hi
      | din _ => cases hi
    obtain ⟨xs, hx, hr⟩ := rp
    refine .inl ⟨a, xs, rfl, hx, fun p hp => ?_⟩
    subst ht
    have hc := hr.cut l u
    exact q _ _ (s13.trans (same_upd hp)) (OkS.newL (by rw [List.length_map]; exact hc.len) (OkS.pushD s' hc) hp)
  have h7 : cutT x l u = some t := h7
  cases x with
  | p d =>
    cases d with
    | str z =>
      have h7 : (if z.length ≤ 16777216 then some (T.p (.str (cutS z l u))) else none) = some t := h7
      by_cases hz : z.length ≤ 16777216
      · rw [if_pos hz] at h7
        cases h7
        exact .inr (.inr ⟨z, (S3.see (q := (T.p (.str z), v)) (by simp)), by rw [sizeLine_eq]; exact hz, q _ H3 s13 (S3.unview.scal fun _ => rfl)⟩)
      · rw [if_neg hz] at h7; cases h7
    | lst ds =>
      cases h7
      exact lst ds rfl rfl rfl
    | tup ds =>
      have h7 : (if HT.sIx ds.length 0 l = 0 ∧ HT.sIx ds.length ds.length u = ds.length then none else some (T.p (.tup (cutD ds l u)))) = some t := h7
      by_cases hw : HT.sIx ds.length 0 l = 0 ∧ HT.sIx ds.length ds.length u = ds.length
      · rw [if_pos hw] at h7; cases h7
      · rw [if_neg hw] at h7
        cases h7
        obtain ⟨G, ot, oe, s⟩ := S3
        obtain ⟨o, r⟩ := s.vw (.p (.tup ds), v) (by simp)
        have s' : St0 X.kw G0 H0 W G H3 ts vs _ σ ot oe := ⟨s.tmp, s.env, s.nd, s.fr, s.g0, s.gh, s.h0, s.nw, fun q hq => s.vw q (List.mem_cons_of_mem _ hq)⟩
        obtain ⟨⟨a, xs, e1, e2, e3⟩, _⟩ := r
        refine .inr (.inl ⟨a, xs, e1, tup_seq s.gh e2, by rw [e3.len]; exact hw, fun p hp => ?_⟩)
        have hc := e3.cut l u
        have S4 := OkS.newT (by rw [List.length_map]; exact hc.len) (OkS.pushD s' hc) hp
        rw [mkTup_p] at S4
        exact q _ _ (s13.trans (same_upd hp)) S4
    | _ => cases h7
  | lst us =>
    obtain ⟨ds, k1, k2⟩ := omap (show (allP us).map (fun ds => T.lst ((cutD ds l u).map T.p)) = some t from h7)
    exact lst ds k1 rfl k2.symm
  | _ => cases h7
end
section
variable {K : KW} {G0 H0 H : Hp} {W : List (T × V)} {ts : List T} {vs : List V} {env : Env} {σ : St} {t : T} {v : V}
theorem OkS.wrL {us es : List T} {ws : List V} (S : OkS K G0 H0 W H (.lst us :: (es ++ ts)) (v :: (ws ++ vs)) env σ) (hw : ws.length = es.length) : ∃ a xs, v = .ref a ∧ H a = some (.lst xs) ∧ xs.length = us.length ∧
    ∀ (us' : List T) (xs' : List V), (∀ (G : Hp) (o1 o2 : List Addr), RpTs K G H us xs o1 → RpTs K G H es ws o2 → ∃ o' r, RpTs K G H us' xs' o' ∧ (o1 ++ o2).Perm (o' ++ r)) → OkS K G0 H0 [] (upd H a (.lst xs')) (.lst us' :: ts) (.ref a :: vs) env σ := by
  obtain ⟨G, ot, oe, s⟩ := S
  obtain ⟨v0, r0, oa, ob, h1, ⟨a, xs, o1, e1, e2, e3, e4⟩, h3, h4⟩ := s.tmp
  cases h1
  obtain ⟨o2, o3, k1, k2, k3⟩ := h3.split hw
  refine ⟨a, xs, e1, e2, e3.len, fun us' xs' hf => ?_⟩
  obtain ⟨o', r, f1, f2⟩ := hf G o1 o2 e3 k1
  have pm : (ot ++ oe).Perm (a :: (o' ++ (o3 ++ oe)) ++ r) := by
    rw [h4, e4, k3]
    have q1 : (a :: o1 ++ (o2 ++ o3) ++ oe) = a :: ((o1 ++ o2) ++ (o3 ++ oe)) := by simp
    rw [q1, List.cons_append]
    refine List.Perm.cons a ?_
    refine (List.Perm.append_right _ f2).trans ?_
    rw [List.append_assoc, List.append_assoc]
    exact List.Perm.append_left _ List.perm_append_comm
  have nd := (List.nodup_append.mp (pm.nodup_iff.mp s.nd)).1
  have na : ∀ b ∈ o' ++ (o3 ++ oe), b ≠ a := fun b hb e => by
    subst e
    exact (List.nodup_cons.mp nd).1 hb
  have kp : ∀ b ∈ o' ++ (o3 ++ oe), upd H a (.lst xs') b = H b := fun b hb => upd_ne (na b hb)
  have fr : ∀ b ∈ a :: (o' ++ (o3 ++ oe)), G b = none ∧ H0 b = none := fun b hb => s.fr b (pm.mem_iff.mpr (List.mem_append_left _ hb))
  refine ⟨G, a :: o' ++ o3, oe, ⟨.ref a, vs, a :: o', o3, rfl, ⟨a, xs', o', rfl, upd_same, f1.mono (Same.refl _) _ (fun b hb => kp b (by simp [hb])), rfl⟩, k2.mono (Same.refl _) _ (fun b hb => kp b (by simp [hb])), rfl⟩, s.env.mono (Same.refl _) _ (fun b hb => kp b (by simp [hb])), by simpa using nd, fun b hb => fr b (by simpa using hb), s.g0, fun b u e => ?_, fun b u e => ?_, s.nw, fun q hq => by cases hq⟩
  · have : b ≠ a := fun z => by subst z; rw [(fr b (by simp)).1] at e; cases e
    rw [upd_ne this]; exact s.gh b u e
  · have : b ≠ a := fun z => by subst z; rw [(fr b (by simp)).2] at e; cases e
    rw [upd_ne this]; exact s.h0 b u e
theorem RpTs.set {G : Hp} : ∀ {ts : List T} {vs : List V} {o : List Addr} {i : Nat} {t : T} {v : V} {o1 : List Addr}, RpTs K G H ts vs o → i < ts.length → Rp K G H t v o1 → ∃ o' r, RpTs K G H (ts.set i t) (vs.set i v) o' ∧ (o ++ o1).Perm (o' ++ r)
  | [], _, _, _, _, _, _, _, hi, _ => by simp at hi
  | u :: us, _, _, 0, t, v, o1, ⟨w, r, p1, p2, h1, h2, h3, h4⟩, _, h => by
    subst h1; subst h4
    refine ⟨o1 ++ p2, p1, ⟨v, r, o1, p2, rfl, h, h3, rfl⟩, ?_⟩
    rw [List.append_assoc]
    refine List.perm_append_comm.trans ?_
    exact List.Perm.append_right _ List.perm_append_comm
  | u :: us, _, _, i + 1, t, v, o1, ⟨w, r, p1, p2, h1, h2, h3, h4⟩, hi, h => by
    subst h1; subst h4
    obtain ⟨o', r', g1, g2⟩ := RpTs.set (i := i) h3 (by simpa using hi) h
    refine ⟨p1 ++ o', r', ⟨w, _, p1, o', rfl, h2, g1, rfl⟩, ?_⟩
    rw [List.append_assoc, List.append_assoc]
    exact List.Perm.append_left _ g2
end
def sApp (i : Nat) (f : EF) : SF := fun env => match env[i]? with
  | some (some (.lst _)) => (f env).bind fun r => match r.2[i]? with
    | some (some (.lst us)) => if us.length < 16000000 then some (.nx, r.2.set i (some (.lst (us ++ [r.1])))) else none
    | _ => none
  | _ => none
section
variable {X : Cx} {e : Expr} {te : TE} {f : EF} {pos cpos apos npos : Pos}
theorem ds_app (i : Nat) {x : Str} (h : DT X e te f) (hN : X.N[i]? = some x := by rfl) (hv : Vis X.env.scope x := by first | exact Or.inl rfl | exact Or.inr (Or.inl rfl) | exact Or.inr (Or.inr rfl)) (hd : (x == ("__debug__" : Str)) = false := by decide) (hcd : (x == ("__classdict__" : Str)) = false := by decide)
    (hse : starEach [e] X.env = (false, eval e X.env) :: starEach [] X.env := by rfl)
    (hfew : ((backTo cpos (starEach [e] X.env)).all (fun x => !x.1) && (backToKw cpos (keywordEach [] X.env)).all (fun x => x.1.isSome)
      && decide ([e].length + ([] : List Keyword).length + (if ([] : List Keyword).isEmpty then 0 else 1) < 30)) = true := by rfl)
    (hline : (apos.endLine == cpos.line) = true := by rfl)
    (hs : swapsWith (.Call (.Attribute (.Name x npos) "append" apos) [e] [] cpos) none pos.line X.env = pure false := by rfl) :
    DS X (.Expr (.Call (.Attribute (.Name x npos) "append" apos) [e] [] cpos) pos) (tDrop (tBM X.K "list" rAppend (tVar i) (tCons te tNil))) (sApp i f) [] := by
  refine ⟨ps_expr (pe_bm PySem.F.plainAttrs_list PySem.F.slot_list_append PySem.F.type_list_append mt_append (pe_var hN hv hd hcd) (pa_cons h.pe pa_nil hse) rfl hfew hline hse rfl) hs, ?_⟩
  intro G0 H0 H ts vs env σ fl env' S g D q
  unfold sApp at g
  split at g
  · rename_i us0 he
    obtain ⟨⟨t, e1⟩, g1, g2⟩ := obind g
    dsimp only at g2
    split at g2
    · rename_i us he1
      by_cases hl : us.length < 16000000
      · rw [if_pos hl] at g2
        cases g2
        obtain ⟨v, hv1, S1⟩ := S.look he
        obtain ⟨a0, xs0, ev, hq0, _⟩ : ∃ a xs, v = .ref a ∧ SqL X.K H a xs ∧ True := by
          obtain ⟨a, xs, k1, k2, _⟩ := S1.see (q := (T.lst us0, v)) (by simp)
          exact ⟨a, xs, k1, .inl k2, trivial⟩
        subst ev
        refine ⟨.ref a0, hv1, .inl ⟨rfl, _, hq0⟩, ?_⟩
        refine h.ok _ _ _ _ _ _ _ _ _ _ S g1 _ fun w H1 s1 S2 => ?_
        obtain ⟨v2, hv2, S3⟩ := S2.get he1
        rw [hv1] at hv2
        cases hv2
        obtain ⟨a, xs, k1, k2, k3, k4⟩ := OkS.wrL (es := [t]) (ws := [w]) S3 rfl
        cases k1
        refine ⟨a0, xs, w, rfl, rfl, k2, by rw [k3, sizeLine_eq]; omega, ?_⟩
        have S4 := k4 (us ++ [t]) (xs ++ [w]) fun G o1 o2 r1 r2 => ⟨o1 ++ o2, [], r1.append r2, by simp⟩
        have hlen : i < e1.length := (List.getElem?_eq_some_iff.mp he1).1
        have S5 := S4.put (i := i) (by simpa using hlen)
        rw [List.set_set, set_back hv1] at S5
        exact q _ _ S5 .rfl'
      · rw [if_neg hl] at g2; cases g2
    · cases g2
  · cases g
end
def asI : T → Option Int
  | .p (.int i) => some i
  | _ => none
def atL (env : Env) (i : Nat) : Option (List T) := match env[i]? with
  | some (some (.lst us)) => some us
  | _ => none
def sPut (i : Nat) (fj f : EF) : SF := fun env => (f env).bind fun r => (atL r.2 i).bind fun _ => (fj r.2).bind fun s => (asI s.1).bind fun j => (atL s.2 i).bind fun us =>
  (ixN us.length j).map fun k => (.nx, s.2.set i (some (.lst (us.set k r.1))))
def sAugIx (i : Nat) (h : Int → Int → Int) (fj f : EF) : SF := fun env => (atL env i).bind fun _ => (fj env).bind fun s => (asI s.1).bind fun j => if 0 ≤ j then (atL s.2 i).bind fun us => (atI us j).bind fun t => (asI t).bind fun x =>
  (f s.2).bind fun r => (asI r.1).bind fun y => (atL r.2 i).bind fun us2 => (ixN us2.length j).map fun k => (.nx, r.2.set i (some (.lst (us2.set k (.p (.int (h x y)))))))
  else none
end DL
namespace DL
open PySem PySem.Spec PyProof.Rows L2
section
variable {X : Cx}
end
section
variable {X : Cx} {e j : Expr} {te tj : TE} {f fj : EF} {pos npos ipos : Pos}
def sAug (i : Nat) (g : D → D → Option D) (f : EF) : SF := fun env => match env[i]? with
  | some (some (.p a)) => (f env).bind fun r => match r.1 with
    | .p b => (g a b).bind fun d => if i < r.2.length then some (.nx, r.2.set i (some (.p d))) else none
    | _ => none
  | _ => none
theorem ds_aug {i : Nat} {x : Str} {op : Operator} {r : TIp} {g : D → D → Option D} (hN : X.N.Nodup) (hi : X.N[i]? = some x) (hx : Loc X.env.scope x) (he : DT X e te f) (ho : PIp X op r) (hr : Sc2 r g)
    (hf : X.fn x = true ∨ X.env.scope.names.lookup x = some .local := by first | exact .inl rfl | exact .inr rfl | assumption) : DS X (.AugAssign (.Name x npos) op e pos) (tAug i te r) (sAug i g f) [i] := by
  refine ⟨ps_aug hN hi hx he.pe ho hf, ?_⟩
  intro G0 H0 H ts vs env σ fl env' S k D q
  unfold sAug at k
  split at k
  · rename_i a ha
    obtain ⟨⟨t, e1⟩, g1, g2⟩ := obind k
    dsimp only at g2
    split at g2
    · rename_i b
      obtain ⟨d, g3, g4⟩ := obind g2
      by_cases hl : i < e1.length
      · rw [if_pos hl] at g4
        cases g4
        obtain ⟨v, hv, S1⟩ := S.look ha
        refine ⟨v, hv, ?_⟩
        have va := S1.see (q := (T.p a, v)) (by simp)
        refine he.ok _ _ _ _ _ _ _ _ _ _ S g1 _ fun w H1 s1 S2 => ?_
        exact hr a b d g3 X.kw H1 v w _ (RpD.mono s1 _ va) S2.top fun u hu => q _ _ ((S2.pop.scal hu).put hl) .set
      · rw [if_neg hl] at g4; cases g4
    · cases g2
  · cases k
theorem sc_ipI {h : Int → Int → Int} : Sc2 (ipI h) (gI (fun _ _ => true) h) := by
  intro a b d hg K H v w Q hv hw q
  obtain ⟨i, j, rfl, rfl, h1, rfl⟩ := gI_some hg
  exact ⟨i, j, hv, hw, q _ fun _ => rfl⟩
end
end DL
namespace DL
open PySem PySem.Spec PyProof.Rows L2
def wipeE (env : Env) : List Nat → Env
  | [] => env
  | v :: vs => (wipeE env vs).set v none
theorem wipeE_some {env : Env} {j : Nat} {t : T} : ∀ {vs : List Nat}, (wipeE env vs)[j]? = some (some t) → j ∉ vs ∧ env[j]? = some (some t)
  | [], h => ⟨by simp, h⟩
  | v :: vs, h => by
    unfold wipeE at h
    by_cases hj : v = j
    · subst hj
      by_cases hl : v < (wipeE env vs).length
      · rw [List.getElem?_set_self hl] at h; cases h
      · rw [List.getElem?_eq_none (by simpa using hl)] at h; cases h
    · rw [List.getElem?_set_ne hj] at h
      obtain ⟨h1, h2⟩ := wipeE_some h
      exact ⟨by simp [h1, Ne.symm hj], h2⟩
section
variable {K : KW} {G0 H0 H G H' : Hp} {W : List (T × V)} {ts : List T} {vs : List V} {env : Env} {σ σ' : St} {t : T} {v : V}
theorem RpE.slots : ∀ {es : Env} {σ σ' : St} {o : List Addr}, RpE K G H es σ o → σ'.length = σ.length → (∀ (j : Nat) (t : T), es[j]? = some (some t) → σ'[j]? = σ[j]?) → RpE K G H es σ' o
  | [], σ, σ', o, ⟨h, h2⟩, hl, _ => by
    subst h
    cases σ' with
    | nil => exact ⟨rfl, h2⟩
    | cons _ _ => simp at hl
  | none :: es, _, σ', o, ⟨x, r, h1, h2⟩, hl, hk => by
    subst h1
    cases σ' with
    | nil => simp at hl
    | cons y σ' => exact ⟨y, σ', rfl, RpE.slots h2 (by simpa using hl) fun j t e => by simpa using hk (j + 1) t (by simpa using e)⟩
  | some u :: es, _, σ', o, ⟨x, r, o1, o2, h1, h2, h3, h4⟩, hl, hk => by
    subst h1
    cases σ' with
    | nil => simp at hl
    | cons y σ' =>
      have e : y = some x := by simpa using hk 0 u rfl
      subst e
      exact ⟨x, σ', o1, o2, rfl, h2, RpE.slots h3 (by simpa using hl) (fun j t e => by simpa using hk (j + 1) t (by simpa using e)), h4⟩
theorem OkS.slots (S : OkS K G0 H0 W H ts vs env σ) (hl : σ'.length = σ.length) (hk : ∀ (j : Nat) (t : T), env[j]? = some (some t) → σ'[j]? = σ[j]?) : OkS K G0 H0 W H ts vs env σ' := by
  obtain ⟨G, ot, oe, s⟩ := S
  exact ⟨G, ot, oe, s.tmp, s.env.slots hl hk, s.nd, s.fr, s.g0, s.gh, s.h0, s.nw, s.vw⟩
theorem OkS.forget1 (S : OkS K G0 H0 W H ts vs env σ) (i : Nat) : OkS K G0 H0 W H ts vs (env.set i none) σ := by
  obtain ⟨G, ot, oe, s⟩ := S
  obtain ⟨o1, o2, h, pm⟩ := s.env.drop i
  have pm2 : (ot ++ oe).Perm (o1 ++ (ot ++ o2)) := (List.Perm.append_left ot pm).trans (perm_mid _ _ _)
  exact ⟨G, ot, o2, s.tmp, h, (List.nodup_append.mp (pm2.nodup_iff.mp s.nd)).2.1, fun a ha => s.fr a (pm2.mem_iff.mpr (List.mem_append_right _ ha)), s.g0, s.gh, s.h0, s.nw, s.vw⟩
theorem OkS.forget (S : OkS K G0 H0 W H ts vs env σ) : ∀ l : List Nat, OkS K G0 H0 W H ts vs (wipeE env l) σ
  | [] => S
  | i :: l => (OkS.forget S l).forget1 i
theorem wipe_out' {σ : St} {j : Nat} : ∀ {l : List Nat}, j ∉ l → (wipe σ l)[j]? = σ[j]?
  | [], _ => rfl
  | v :: l, h => by
    simp only [List.mem_cons, not_or] at h
    unfold wipe
    rw [List.getElem?_set_ne (Ne.symm h.1)]
    exact wipe_out' h.2
theorem wipe_in {σ : St} {j : Nat} : ∀ {l : List Nat}, j ∈ l → j < σ.length → (wipe σ l)[j]? = some none
  | [], h, _ => by cases h
  | v :: l, h, hl => by
    unfold wipe
    by_cases e : v = j
    · subst e
      rw [List.getElem?_set_self (by rw [wipe_length]; exact hl)]
    · rw [List.getElem?_set_ne e]
      rcases List.mem_cons.mp h with z | z
      · exact absurd z.symm e
      · exact wipe_in z hl
theorem wipe_eq {σ σ' : St} {l : List Nat} (hl : σ'.length = σ.length) (h : ∀ j, j ∉ l → σ'[j]? = σ[j]?) : wipe σ' l = wipe σ l := by
  apply List.ext_getElem?
  intro j
  by_cases hj : j ∈ l
  · by_cases hlt : j < σ.length
    · rw [wipe_in hj hlt, wipe_in hj (by omega)]
    · rw [List.getElem?_eq_none (by rw [wipe_length]; omega), List.getElem?_eq_none (by rw [wipe_length]; omega)]
  · rw [wipe_out' hj, wipe_out' hj]; exact h j hj
theorem OkS.toWipe (S : OkS K G0 H0 W H ts vs env σ) (l : List Nat) : OkS K G0 H0 W H ts vs (wipeE env l) (wipe σ l) :=
  (S.forget l).slots (wipe_length _ _) fun j t e => wipe_out' (wipeE_some e).1
theorem OkS.fixV (S : OkS K G0 H0 W H ts vs env σ) : ∃ G1, Gst G0 H0 G1 ∧ (∀ q ∈ W, ∃ o, Rp K G1 H q.1 q.2 o) ∧ OkS K G1 H0 [] H ts vs env σ := by
  obtain ⟨G, ot, oe, s⟩ := S
  refine ⟨G, ⟨s.g0, s.nw⟩, s.vw, G, ot, oe, s.tmp, s.env, s.nd, s.fr, Same.refl _, s.gh, s.h0, fun a o e => .inl (by rw [e]; simp), fun q hq => by cases hq⟩
theorem OkS.reV {G1 : Hp} (S : OkS K G1 H0 [] H' ts vs env σ) (h : ∀ q ∈ W, ∃ o, Rp K G1 H q.1 q.2 o) (s1 : Same H H') : OkS K G1 H0 W H' ts vs env σ := by
  obtain ⟨G, ot, oe, s⟩ := S
  refine ⟨G, ot, oe, s.tmp, s.env, s.nd, s.fr, s.g0, s.gh, s.h0, s.nw, fun q hq => ?_⟩
  obtain ⟨o, r⟩ := h q hq
  refine ⟨o, r.mono s.g0 _ fun a ha => ?_⟩
  obtain ⟨u, e, _⟩ := r.there _ a ha
  rw [e, s1 a u e]
end
theorem ItOk.mono {K : KW} {G1 G2 : Hp} {J : It} {ds : List D} (I : ItOk K G1 J ds) (s : Same G1 G2) : ItOk K G2 J ds where
  go := fun i H h hi => I.go i H (s.trans h) hi
  stop := fun H h => I.stop H (s.trans h)
  yld := fun i H x H' d h hd y => by
    rcases I.yld i H x H' d (s.trans h) hd y with ⟨e, r⟩ | ⟨p, xs, es, h1, h2, h3, h4, h5⟩
    · exact .inl ⟨e, RpD.mono s _ r⟩
    · exact .inr ⟨p, xs, es, h1, h2, h3, h4, RpDs.mono s _ h5⟩
def compD (own : List Nat) (G : GF) (test : CF) (elt : EF) : List D → Env → Option (List T × Env)
  | [], env => some ([], env)
  | d :: ds, env => (G (.p d) env).bind fun e1 => (test e1).bind fun r => if r.1 then (elt r.2).bind fun s => (compD own G test elt ds (wipeE s.2 own)).map fun z => (s.1 :: z.1, z.2)
    else compD own G test elt ds (wipeE r.2 own)
def eComp (own : List Nat) (f : IF) (G : GF) (test : CF) (elt : EF) : EF := fun env => (f env).bind fun r => if r.1.length ≤ 1000000 then (compD own G test elt r.1 (wipeE r.2 own)).map fun z => (.lst z.1, z.2) else none
theorem ev_comp {K : KW} {wi : TI} {fi : IF} {g : TG} {G : GF} {sl own : List Nat} {tt : TT} {ct : CF} {te : TE} {fe : EF} (hI : EvI K wi fi) (hg : EvG K g G sl) (hsl : ∀ j ∈ sl, j ∈ own) (ht : EvC K tt ct) (he : EvT K te fe) : EvT K (tLc wi g tt te own) (eComp own fi G ct fe) := by
  intro G0 H0 W H ts vs env σ t env' S e Q q
  obtain ⟨⟨ds, e1⟩, g1, g2⟩ := obind e
  by_cases hlen : ds.length ≤ 1000000
  · rw [if_pos hlen] at g2
    obtain ⟨⟨us, e2⟩, g3, g4⟩ := omap g2
    cases g4
    refine hI _ _ _ _ _ _ _ _ _ _ S g1 _ fun J H1 G1 s1 gst I S1 => ?_
    obtain ⟨G2, gst2, hv, S2⟩ := S1.fixV
    have I2 := I.mono gst2.s
    intro D hD
    have S3 : OkS K G2 H0 [] (upd H1 D (.lst [])) (.lst [] :: ts) (.ref D :: vs) (wipeE e1 own) (wipe σ own) := (OkS.newL (us := []) (ws := []) rfl S2 hD).toWipe own
    refine ⟨fun i m H => m = ds.length - i ∧ i ≤ ds.length ∧ Same H1 H ∧ ∃ env acc rest, OkS K G2 H0 [] H (.lst acc :: ts) (.ref D :: vs) env (wipe σ own) ∧ compD own G ct fe (ds.drop i) env = some (rest, e2) ∧ us = acc ++ rest ∧ acc.length ≤ i ∧ (∀ (j : Nat) (t : T), env[j]? = some (some t) → j ∉ own),
      ⟨ds.length, by simp, Nat.zero_le _, same_upd hD, wipeE e1 own, [], us, S3, by simpa using g3, rfl, Nat.le_refl _, fun j t e => (wipeE_some e).1⟩, ?_⟩
    rintro i m Hi ⟨rfl, hle, sm, envi, acc, rest, Si, hc, hu, ha, hw0⟩
    by_cases hlt : i < ds.length
    · refine .inr ⟨I2.go i Hi Si.same hlt, fun H' => i + 1 ≤ ds.length ∧ Same H1 H' ∧ ∃ env acc rest, OkS K G2 H0 [] H' (.lst acc :: ts) (.ref D :: vs) env (wipe σ own) ∧ compD own G ct fe (ds.drop (i + 1)) env = some (rest, e2) ∧ us = acc ++ rest ∧ acc.length ≤ i + 1 ∧ (∀ (j : Nat) (t : T), env[j]? = some (some t) → j ∉ own), fun H' ⟨h1, h2⟩ => ⟨ds.length - (i + 1), by omega, rfl, h1, h2⟩, fun x H3 y => ?_⟩
      obtain ⟨s3, S4⟩ := I2.item Si (List.getElem?_eq_getElem hlt) y
      rw [List.drop_eq_getElem_cons hlt] at hc
      obtain ⟨e3, l1, l2⟩ := obind hc
      obtain ⟨⟨b, e4⟩, l3, l4⟩ := obind l2
      refine hg _ _ _ _ _ _ _ _ _ _ _ S4 l1 _ fun σ2 S5 dif => ?_
      have hw : wipe σ2 own = wipe σ own := by
        refine wipe_eq (dif.1.trans (wipe_length _ _)) fun j hj => (dif.2 j fun z => hj (hsl j z)).trans (wipe_out' hj)
      have again : ∀ {H4 : Hp} {e5 : Env} {acc' : List T}, OkS K G2 H0 [] H4 (.lst acc' :: ts) (.ref D :: vs) e5 σ2 → OkS K G2 H0 [] H4 (.lst acc' :: ts) (.ref D :: vs) (wipeE e5 own) (wipe σ own) := fun S => by
        rw [← hw]; exact S.toWipe own
      refine ⟨hw, ?_⟩
      refine ht _ _ _ _ _ _ _ _ _ _ S5 l3 _ fun H4 s4 S6 => ?_
      cases b with
      | false =>
        rw [if_neg Bool.false_ne_true]
        exact ⟨hlt, (sm.trans s3).trans s4, _, acc, rest, again S6, l4, hu, by omega, fun j t e => (wipeE_some e).1⟩
      | true =>
        rw [if_pos rfl]
        obtain ⟨⟨u, e5⟩, l5, l6⟩ := obind (show (fe e4).bind (fun s => (compD own G ct fe (ds.drop (i + 1)) (wipeE s.2 own)).map fun z => (s.1 :: z.1, z.2)) = some (rest, e2) from l4)
        obtain ⟨⟨zs, e6⟩, l7, l8⟩ := omap l6
        cases l8
        refine he _ _ _ _ _ _ _ _ _ _ S6 l5 _ fun y H5 s5 S7 => ?_
        have S8 : OkS K G2 H0 [] H5 (.lst acc :: ([u] ++ ts)) (.ref D :: ([y] ++ vs)) e5 σ2 := OkS.mid (us := [u]) (ws := [y]) rfl S7 |> fun S => by
          have := OkS.mid (us := [u]) (ws := [y]) (x := .lst acc) (y := .ref D) rfl S7
          exact this
        obtain ⟨a, xs, k1, k2, k3, k4⟩ := OkS.wrL (es := [u]) (ws := [y]) S8 rfl
        cases k1
        refine ⟨xs, k2, by rw [k3, sizeLine_eq]; omega, hlt, ?_, _, acc ++ [u], zs, again (k4 (acc ++ [u]) (xs ++ [y]) fun G o1 o2 r1 r2 => ⟨o1 ++ o2, [], r1.append r2, by simp⟩), l7, by rw [hu]; simp, by simp; omega, fun j t e => (wipeE_some e).1⟩
        intro b ob eb
        have : b ≠ D := fun z => by rw [z, hD] at eb; cases eb
        rw [upd_ne this]
        exact s5 b ob (s4 b ob (s3 b ob (sm b ob eb)))
    · have hi' : i = ds.length := by omega
      subst hi'
      rw [List.drop_length] at hc
      cases hc
      rw [List.append_nil] at hu
      subst hu
      have Sf : OkS K G2 H0 W Hi (.lst us :: ts) (.ref D :: vs) e2 σ := (Si.slots (by rw [wipe_length]) fun j t e => (wipe_out' (hw0 j t e)).symm).reV hv sm
      exact .inl ⟨I2.stop Hi Si.same, q _ Hi (s1.trans sm) ((Sf.back gst2).back gst)⟩
  · rw [if_neg hlen] at g2; cases g2
end DL
namespace DL
open PySem PySem.Spec PyProof.Rows L2
structure DTs (X : Cx) (es : List Expr) (t : TT) (c : CF) : Prop where
  pt : PTs X es t
  ok : EvC X.kw t c
def cYes : CF := fun env => some (true, env)
theorem dts_nil {X : Cx} : DTs X [] tYes cYes := ⟨pts_nil, fun _ _ _ H _ _ _ _ _ _ S e Q q => by cases e; exact q H (Same.refl _) S⟩
theorem dts_one {X : Cx} {e : Expr} {t : TT} {c : CF} (h : DC X e t c) : DTs X [e] t c := ⟨pts_one h.pt, h.ok⟩
def teW (K : KW) (f : EF) : TE := fun σ H Q => ∃ (G0 H0 : Hp) (W : List (T × V)) (ts : List T) (vs : List V) (env : Env) (t : T) (env' : Env), OkS K G0 H0 W H ts vs env σ ∧ f env = some (t, env') ∧ ∀ v H', Same H H' → OkS K G0 H0 W H' (t :: ts) (v :: vs) env' σ → Q v H'
def ttW (K : KW) (f : CF) : TT := fun σ H Q => ∃ (G0 H0 : Hp) (W : List (T × V)) (ts : List T) (vs : List V) (env : Env) (c : Bool) (env' : Env), OkS K G0 H0 W H ts vs env σ ∧ f env = some (c, env') ∧ ∀ H', Same H H' → OkS K G0 H0 W H' ts vs env' σ → Q c H'
theorem ev_teW {K : KW} {f : EF} : EvT K (teW K f) f := fun G0 H0 W H ts vs env σ t env' S e Q q => ⟨G0, H0, W, ts, vs, env, t, env', S, e, q⟩
theorem ev_ttW {K : KW} {f : CF} : EvC K (ttW K f) f := fun G0 H0 W H ts vs env σ t env' S e Q q => ⟨G0, H0, W, ts, vs, env, t, env', S, e, q⟩
theorem pe_W {X : Cx} {e : Expr} {te : TE} {f : EF} (h : DT X e te f) : PE X e (teW X.kw f) := ⟨fun pins s σ H Q I ⟨_, _, _, _, _, _, _, _, S, g, q⟩ => h.pe.run pins s σ H Q I (h.ok _ _ _ _ _ _ _ _ _ _ S g Q q)⟩
theorem pts_W {X : Cx} {e : List Expr} {te : TT} {f : CF} (h : DTs X e te f) : PTs X e (ttW X.kw f) := ⟨fun pins s σ H Q I ⟨_, _, _, _, _, _, _, _, S, g, q⟩ => h.pt.run pins s σ H Q I (h.ok _ _ _ _ _ _ _ _ _ _ S g Q q)⟩
def tgW (K : KW) (G : GF) (sl : List Nat) : TG := fun x σ H Q => ∃ (G0 H0 : Hp) (W : List (T × V)) (ts : List T) (vs : List V) (env : Env) (d : T) (env' : Env), OkS K G0 H0 W H (d :: ts) (x :: vs) env σ ∧ G d env = some env' ∧ ∀ σ', OkS K G0 H0 W H ts vs env' σ' → Dif sl σ σ' → Q σ' H
theorem ev_tgW {K : KW} {G : GF} {sl : List Nat} : EvG K (tgW K G sl) G sl := fun G0 H0 W H ts vs env σ d x env' S e Q q => ⟨G0, H0, W, ts, vs, env, d, env', S, e, q⟩
theorem pg_W {X : Cx} {e : Expr} {g : TG} {G : GF} {sl : List Nat} (h : DG X e g G sl) : PG X e (tgW X.kw G sl) := ⟨fun pins s σ H v u Q I r ⟨_, _, _, _, _, _, _, _, S, g, q⟩ => h.pg.run pins s σ H v u Q I r (h.ok _ _ _ _ _ _ _ _ _ _ _ S g Q q)⟩
section
variable {X : Cx} {elt tg iter : Expr} {ifs : List Expr} {scope : Scope} {own : List (Str × Nat)} {pos spos py : Pos} {wi : TI} {fi : IF} {g : Shared → Hp → Addr → List (Str × Addr) → List Addr → TG} {G : GF} {sl : List Nat} {tt : Shared → Hp → Addr → List (Str × Addr) → List Addr → TT} {ct : CF} {te : Shared → Hp → Addr → List (Str × Addr) → List Addr → TE} {fe : EF} {i : Nat} {y : Str}
theorem dt_comp (hc : X.calm = true) (hN : X.N.Nodup) (hi : DI X tg iter wi fi) (ok : BlkOk X.N X.env.scope scope own)
    (hg : ∀ (s : Shared) (H : Hp) (C : Addr) (cl : List (Str × Addr)) (fp : List Addr), DG (X.blk s H scope (compEnvC scope cl C X.env) fp) tg (g s H C cl fp) G sl) (ht : ∀ (s : Shared) (H : Hp) (C : Addr) (cl : List (Str × Addr)) (fp : List Addr), DTs (X.blk s H scope (compEnvC scope cl C X.env) fp) ifs (tt s H C cl fp) ct)
    (he : ∀ (s : Shared) (H : Hp) (C : Addr) (cl : List (Str × Addr)) (fp : List Addr), DT (X.blk s H scope (compEnvC scope cl C X.env) fp) elt (te s H C cl fp) fe) (hsl : ∀ j ∈ sl, j ∈ own.map (·.2) := by decide) (hs : ∀ x, foldedSetIterable iter X.env x = pure x := by intro _; rfl) :
    DT X (.ListComp elt [⟨tg, iter, ifs, 0⟩] scope pos) (tLc wi (tgW X.kw G sl) (ttW X.kw ct) (teW X.kw fe) (own.map (·.2))) (eComp (own.map (·.2)) fi G ct fe) :=
  ⟨pe_lc hc hN hi.pi ok (fun s H C cl fp => pg_W (hg s H C cl fp)) (fun s H C cl fp => pts_W (ht s H C cl fp)) (fun s H C cl fp => pe_W (he s H C cl fp)) hs,
    ev_comp hi.ok ev_tgW hsl ev_ttW ev_teW⟩
theorem ds_setLc (hc : X.calm = true) (hN : X.N.Nodup) (hy : X.N[i]? = some y) (hyl : X.env.scope.names.lookup y = some .local)
    (hsw : swapsWith (.ListComp elt [⟨tg, iter, ifs, 0⟩] scope pos) (some (.Name y py)) spos.line X.env = pure true) (hi : DI X tg iter wi fi) (ok : BlkOk X.N X.env.scope scope own)
    (hg : ∀ (s : Shared) (H : Hp) (C : Addr) (cl : List (Str × Addr)) (fp : List Addr), DG (X.blk s H scope (compEnvC scope cl C X.env) fp) tg (g s H C cl fp) G sl) (ht : ∀ (s : Shared) (H : Hp) (C : Addr) (cl : List (Str × Addr)) (fp : List Addr), DTs (X.blk s H scope (compEnvC scope cl C X.env) fp) ifs (tt s H C cl fp) ct)
    (he : ∀ (s : Shared) (H : Hp) (C : Addr) (cl : List (Str × Addr)) (fp : List Addr), DT (X.blk s H scope (compEnvC scope cl C X.env) fp) elt (te s H C cl fp) fe) (hsl : ∀ j ∈ sl, j ∈ own.map (·.2) := by decide) (hs : ∀ x, foldedSetIterable iter X.env x = pure x := by intro _; rfl) :
    DS X (.Assign [.Name y py] (.ListComp elt [⟨tg, iter, ifs, 0⟩] scope pos) spos) (tAsg (tLc wi (tgW X.kw G sl) (ttW X.kw ct) (teW X.kw fe) (own.map (·.2))) (gName i)) (sSet i (eComp (own.map (·.2)) fi G ct fe)) [i] :=
  ⟨ps_setLc hc hN hy hyl hsw hi.pi ok (fun s H C cl fp => pg_W (hg s H C cl fp)) (fun s H C cl fp => pts_W (ht s H C cl fp)) (fun s H C cl fp => pe_W (he s H C cl fp)) hs,
    evs_set (ev_comp hi.ok ev_tgW hsl ev_ttW ev_teW)⟩
end
def enumD : Nat → List D → List D
  | _, [] => []
  | i, d :: ds => .tup [.int (i : Int), d] :: enumD (i + 1) ds
theorem enumD_len : ∀ (i : Nat) (ds : List D), (enumD i ds).length = ds.length
  | _, [] => rfl
  | i, d :: ds => by rw [enumD, List.length_cons, enumD_len, List.length_cons]
theorem enumD_get : ∀ (ds : List D) (k i : Nat) (d : D), (enumD k ds)[i]? = some d → ∃ x, ds[i]? = some x ∧ d = .tup [.int ((k + i : Nat) : Int), x]
  | [], _, _, _, h => by simp [enumD] at h
  | x :: ds, k, 0, d, h => by
    simp [enumD] at h
    exact ⟨x, rfl, h.symm⟩
  | x :: ds, k, i + 1, d, h => by
    obtain ⟨y, h1, h2⟩ := enumD_get ds (k + 1) i d (by simpa [enumD] using h)
    exact ⟨y, by simpa using h1, by rw [h2]; congr 4; omega⟩
def zipD : List D → List D → List D
  | d :: ds, e :: es => .tup [d, e] :: zipD ds es
  | _, _ => []
def signsD (s : Str) : List D := s.cps.toList.map fun c => .str ⟨#[c]⟩
section
variable {K : KW} {G1 : Hp} {a b : Addr} {ds es : List D} {xs ys : List V}
theorem itOk_e (h : SqL K G1 a xs) (hr : RpDs K G1 ds xs) : ItOk K G1 (Ite K a) (enumD 0 ds) where
  go := fun i H s hi => by
    rw [enumD_len] at hi
    exact ⟨xs, xs[i]'(by rw [hr.len]; exact hi), s.seq h, List.getElem?_eq_getElem _⟩
  stop := fun H s => ⟨xs, s.seq h, by rw [hr.len, enumD_len]; exact Nat.le_refl _⟩
  yld := fun i H x H' d s hd y => by
    obtain ⟨p, z, e1, e2, e3, e4⟩ := y
    obtain ⟨w, h1, h2⟩ := enumD_get _ _ _ _ hd
    obtain ⟨v, h3, h4⟩ := hr.get h1
    have := e4 xs (s.seq h)
    rw [h3] at this
    cases this
    refine .inr ⟨p, _, _, e2, e3, e1, h2, ?_⟩
    exact ⟨_, _, rfl, by rw [Nat.zero_add]; exact rfl, z, [], rfl, h4, rfl⟩
end
def iEn (f : AF) : IF := fun env => (f env).bind fun r => match r.1 with
  | [.p (.lst ds)] => some (enumD 0 ds, r.2)
  | _ => none
def iZp (f : AF) : IF := fun env => (f env).bind fun r => match r.1 with
  | [.p (.lst ds), .p (.lst es)] => some (zipD ds es, r.2)
  | [.p (.tup ds), .p (.tup es)] => some (zipD ds es, r.2)
  | _ => none
def iSg (f : EF) : IF := fun env => (f env).bind fun r => match r.1 with
  | .p (.str z) => some (signsD z, r.2)
  | _ => none
section
variable {X : Cx} {tg e e2 : Expr} {te : TE} {ta : TA} {f : EF} {fa : AF} {p pos tpos : Pos} {elts : List Expr} {kk : Nat}
theorem di_enum (hg : Gl X "enumerate") (hm : X.mg "enumerate" = none) (h : DA X [e] ta fa) (hs : starEach [e] X.env = [(false, eval e X.env)] := by rfl) :
    DI X (.Tuple elts kk tpos) (.Call (.Name "enumerate" p) [e] [] pos) (iEnum X.K ta) (iEn fa) := by
  refine ⟨pi_enum hg hm h.pa hs, ?_⟩
  intro G0 H0 W H ts vs env σ ds env' S g R r
  obtain ⟨⟨us, e1⟩, g1, g2⟩ := obind g
  refine h.ok _ _ _ _ _ _ _ _ _ _ S g1 _ fun ws H1 s1 hl S1 => ?_
  dsimp only at g2
  split at g2
  · rename_i es
    cases g2
    match ws, hl with
    | [w1], _ =>
      obtain ⟨G1, gst, sG, ⟨a, xs, q1, q2, q3⟩, S2⟩ := OkS.fixTop (show OkS X.kw G0 H0 W H1 (.p (.lst es) :: ts) (w1 :: vs) _ σ from S1)
      exact ⟨a, xs, by rw [q1], sG.seq (.inl q2), r _ _ G1 s1 gst (itOk_e (.inl q2) q3) S2⟩
  · cases g2
end
def gAdd : D → D → Option D
  | .int i, .int j => some (.int (i + j))
  | .str s, .str t => if s.length + t.length ≤ 16777216 then some (.str (s ++ t)) else none
  | _, _ => none
def rAddA : R2 := fun x y H Q => (rI0 fun i j => .int (i + j)) x y H Q ∨ ∃ i j, x = .str i ∧ y = .str j ∧ i.length + j.length ≤ sizeLine ∧ Q (.str (i ++ j)) H
theorem op_addA {X : Cx} : OpR X (binaryOp .Add) rAddA := OpR.or op_add op_add_str
theorem sc_add : Sc2 rAddA gAdd := by
  intro a b d h K H v w Q hv hw q
  unfold gAdd at h
  split at h
  · cases h; exact .inl ⟨_, _, hv, hw, q _ fun _ => rfl⟩
  · rename_i s t
    by_cases hs : s.length + t.length ≤ 16777216
    · rw [if_pos hs] at h; cases h
      exact .inr ⟨s, t, hv, hw, by rw [sizeLine_eq]; exact hs, q _ fun _ => rfl⟩
    · rw [if_neg hs] at h; cases h
  · cases h
end DL
namespace DL
open PySem PySem.Spec PyProof.Rows L2
def gSub : D → D → Option D := gI (fun _ _ => true) fun i j => i - j
def gAddI : D → D → Option D := gI (fun _ _ => true) fun i j => i + j
def gMul : D → D → Option D := gI mulOk fun i j => i * j
def gDiv : D → D → Option D := gI divOk fun i j => i / j
def gMod : D → D → Option D := gI modOk fun i j => i % j
def gPow : D → D → Option D := gI powOk fun i j => i ^ j.toNat
theorem modOk_ok {i j : Int} (h : modOk i j = true) : 0 < j := of_decide_eq_true h
def cLt : D → D → Option Bool := cmI fun i j => decide (i < j)
def cLe : D → D → Option Bool := cmI fun i j => decide (i ≤ j)
def cGt : D → D → Option Bool := cmI fun i j => decide (j < i)
def cGe : D → D → Option Bool := cmI fun i j => decide (j ≤ i)
def eNeg (f : EF) : EF := fun env => (f env).bind fun r => match r.1 with | .p (.int i) => some (.p (.int (-i)), r.2) | _ => none
section
variable {X : Cx} {a b e : Expr} {ta tb te : TE} {fa fb f : EF} {pos npos : Pos} {i : Nat} {x : Str}
theorem dt_add (ha : DT X a ta fa) (hb : DT X b tb fb) : DT X (.BinOp a .Add b pos) (tOp rAddA ta tb) (eOp gAdd fa fb) := dt_op op_addA sc_add ha hb
theorem dt_sub (ha : DT X a ta fa) (hb : DT X b tb fb) : DT X (.BinOp a .Sub b pos) (tOp (rI0 fun i j => .int (i - j)) ta tb) (eOp gSub fa fb) := dt_op op_sub sc_int0 ha hb
theorem dt_mul (ha : DT X a ta fa) (hb : DT X b tb fb) : DT X (.BinOp a .Mult b pos) (tOp (rI IntMulOk fun i j => .int (i * j)) ta tb) (eOp gMul fa fb) := dt_op op_mulB (sc_int fun _ _ h => mulOk_ok h) ha hb
theorem dt_div (ha : DT X a ta fa) (hb : DT X b tb fb) : DT X (.BinOp a .FloorDiv b pos) (tOp (rI CDivW fun i j => .int (i / j)) ta tb) (eOp gDiv fa fb) := dt_op op_fdivW (sc_int fun _ _ h => divOk_ok h) ha hb
theorem dt_mod (ha : DT X a ta fa) (hb : DT X b tb fb) : DT X (.BinOp a .Mod b pos) (tOp (rI (fun _ j => 0 < j) fun i j => .int (i % j)) ta tb) (eOp gMod fa fb) := dt_op op_mod (sc_int fun _ _ h => modOk_ok h) ha hb
theorem dt_pow (ha : DT X a ta fa) (hb : DT X b tb fb) : DT X (.BinOp a .Pow b pos) (tOp (rI CPow fun i j => .int (i ^ j.toNat)) ta tb) (eOp gPow fa fb) := dt_op op_pow (sc_int fun _ _ h => powOk_ok h) ha hb
theorem dt_neg (h : DT X a ta fa) : DT X (.UnaryOp .USub a pos) (tUn (rU fun i => .int (-i)) ta) (eNeg fa) := by
  refine ⟨pe_un un_neg h.pe, ?_⟩
  intro G0 H0 W H ts vs env σ t env' S e Q q
  obtain ⟨⟨u, e1⟩, h1, h2⟩ := obind e
  dsimp only at h2
  split at h2
  · rename_i k
    cases h2
    exact h.ok _ _ _ _ _ _ _ _ _ _ S h1 _ fun v H1 s1 S1 => ⟨k, S1.top, q _ H1 s1 (S1.pop.scal fun _ => rfl)⟩
  · cases h2
theorem dt_eq (hu : X.A.units + 64 < cLine) (ha : DV X a ta fa) (hb : DV X b tb fb) : DT X (.Compare a [.Eq] [b] pos) (tOp (rEqA X.K) ta tb) (eCmp eqQ fa fb) := dt_cmp (op_eqA hu) cm_eq ha hb (nomark _)
theorem dc_lt (ha : DV X a ta fa) (hb : DV X b tb fb) : DC X (.Compare a [.Lt] [b] pos) (tTest (tOp (rI0 fun i j => .bl (decide (i < j))) ta tb)) (cT (eCmp cLt fa fb)) := dc_cmp (r := fun _ => rI0 fun i j => .bl (decide (i < j))) op_lt cm_int ha hb (nomark _)
theorem dc_gt (ha : DV X a ta fa) (hb : DV X b tb fb) : DC X (.Compare a [.Gt] [b] pos) (tTest (tOp (rI0 fun i j => .bl (decide (j < i))) ta tb)) (cT (eCmp cGt fa fb)) := dc_cmp (r := fun _ => rI0 fun i j => .bl (decide (j < i))) op_gt cm_int ha hb (nomark _)
theorem dc_eq (hu : X.A.units + 64 < cLine) (ha : DV X a ta fa) (hb : DV X b tb fb) : DC X (.Compare a [.Eq] [b] pos) (tTest (tOp (rEqA X.K) ta tb)) (cT (eCmp eqQ fa fb)) := dc_cmp (op_eqA hu) cm_eq ha hb (nomark _)
theorem dc_ne (hu : X.A.units + 64 < cLine) (ha : DV X a ta fa) (hb : DV X b tb fb) : DC X (.Compare a [.NotEq] [b] pos) (tTest (tOp (rNeA X.K) ta tb)) (cT (eCmp neQ fa fb)) := dc_cmp (op_neA hu) cm_ne ha hb (nomark _)
theorem dc_is (ha : DV X a ta fa) (hb : DV X b tb fb) : DC X (.Compare a [.Is] [b] pos) (tTest (tOp (rIsA X.K) ta tb)) (cT (eCmp isN fa fb)) := dc_cmp op_isA cm_is ha hb (nomark _)
theorem dc_isNot (ha : DV X a ta fa) (hb : DV X b tb fb) : DC X (.Compare a [.IsNot] [b] pos) (tTest (tOp (rIsNotA X.K) ta tb)) (cT (eCmp isNotN fa fb)) := dc_cmp op_isNotA cm_isNot ha hb (nomark _)
theorem dc_in (ha : DV X a ta fa) (hb : DV X b tb fb) (hm : behindInMarks .In b = false := by with_unfolding_all rfl) : DC X (.Compare a [.In] [b] pos) (tTest (tOp (rInA X.K) ta tb)) (cT (eCmp inQ fa fb)) := dc_cmp op_inA cm_in ha hb hm
theorem dc_notIn (ha : DV X a ta fa) (hb : DV X b tb fb) (hm : behindInMarks .NotIn b = false := by with_unfolding_all rfl) : DC X (.Compare a [.NotIn] [b] pos) (tTest (tOp (rNotInA X.K) ta tb)) (cT (eCmp notInQ fa fb)) := dc_cmp op_notInA cm_notIn ha hb hm
theorem dt_len (hg : Gl X "len") (hm : X.mg "len" = none) (h : DV X a ta fa) (hs : starEach [a] X.env = (false, eval a X.env) :: starEach [] X.env := by rfl) : DT X (.Call (.Name "len" npos) [a] [] pos) (tCB (rLenA X.K) (tCons ta tNil)) (eB1 gLen fa) := dt_b1 call_lenA bi_len hg hm PySem.boot_len h hs
end
theorem end_law {K : KW} {H : Hp} {a : Addr} {ns : List Int} {φ : List D → Option T} (h : φ [.lst (ns.map D.int)] = some (.p (.bl true))) (hS : Rd H a (.lst (ns.map V.int))) {E : XK} : spD 1 φ K [.ref a] H (fun v _ => v = .bl true) E := by
  refine ⟨[.lst (ns.map D.int)], _, H, rfl, h, Same.refl _, ⟨.ref a, [], rfl, ⟨a, _, rfl, hS, ?_⟩, rfl⟩, fun v G' H' o _ _ _ r _ _ _ => r.1⟩
  have gen : ∀ ns : List Int, RpDs K H (ns.map D.int) (ns.map V.int) := fun ns => by
    induction ns with
    | nil => rfl
    | cons n ns ih => exact ⟨.int n, _, rfl, rfl, ih⟩
  exact gen ns
end DL
namespace DL
open PySem PySem.Spec PyProof.Rows L2
def EvVs (K : KW) (ta : TA) (f : AF) : Prop := ∀ (G0 H0 : Hp) (W : List (T × V)) (H : Hp) (ts : List T) (vs : List V) (env : Env) (σ : St) (us : List T) (env' : Env), OkS K G0 H0 W H ts vs env σ → f env = some (us, env') →
  ∀ Q : List V → Hp → Prop, (∀ ws H', Same H H' → ws.length = us.length → OkS K G0 H0 (us.zip ws ++ W) H' ts vs env' σ → Q ws H') → ta σ H Q
structure DVs (X : Cx) (es : List Expr) (ta : TA) (f : AF) : Prop where
  pa : PA X es ta
  ok : EvVs X.kw ta f
section
variable {X : Cx} {e : Expr} {es : List Expr} {te : TE} {tr : TA} {f : EF} {fr : AF}
theorem OkS.views {K : KW} {G0 H0 H : Hp} {W W' : List (T × V)} {ts : List T} {vs : List V} {env : Env} {σ : St} (S : OkS K G0 H0 W H ts vs env σ) (h : ∀ q ∈ W', q ∈ W) : OkS K G0 H0 W' H ts vs env σ := by
  obtain ⟨G, ot, oe, s⟩ := S
  exact ⟨G, ot, oe, s.tmp, s.env, s.nd, s.fr, s.g0, s.gh, s.h0, s.nw, fun q hq => s.vw q (h q hq)⟩
theorem dvs_nil : DVs X [] tNil aN := by
  refine ⟨pa_nil, ?_⟩
  intro G0 H0 W H ts vs env σ us env' S e Q q
  cases e
  exact q [] H (Same.refl _) rfl S
theorem dvs_cons (h : DV X e te f) (hr : DVs X es tr fr) (hs : starEach (e :: es) X.env = (false, eval e X.env) :: starEach es X.env := by rfl) : DVs X (e :: es) (tCons te tr) (aC f fr) := by
  refine ⟨pa_cons h.pe hr.pa hs, ?_⟩
  intro G0 H0 W H ts vs env σ us env' S g Q q
  obtain ⟨⟨x, e1⟩, h1, h2⟩ := obind g
  obtain ⟨⟨y, e2⟩, h3, h4⟩ := omap h2
  cases h4
  refine h.ok _ _ _ _ _ _ _ _ _ _ S h1 _ fun v H1 s1 S1 => ?_
  refine hr.ok _ _ _ _ _ _ _ _ _ _ S1 h3 _ fun ws H2 s2 hl S2 => ?_
  refine q (v :: ws) H2 (s1.trans s2) (by simp [hl]) (S2.views fun q hq => ?_)
  simp only [List.zip_cons_cons, List.cons_append, List.mem_cons, List.mem_append] at hq ⊢
  rcases hq with h | h | h
  · exact .inr (.inl h)
  · exact .inl h
  · exact .inr (.inr h)
end
mutual
def cleanT : T → Bool
  | .p .non => true
  | .p (.bl _) => true
  | .p (.int _) => true
  | .p (.str _) => true
  | .p _ => false
  | .lst ts => cleanTs ts
  | .tup _ => false
  | _ => false
def cleanTs : List T → Bool
  | [] => true
  | t :: ts => cleanT t && cleanTs ts
end
section
variable {K : KW} {G G' H : Hp}
mutual
theorem Rp.clean : ∀ {t : T} {v : V} {o : List Addr}, cleanT t = true → Rp K G H t v o → Rp K G' H t v o
  | .p .non, _, _, _, h => h
  | .p (.bl _), _, _, _, h => h
  | .p (.int _), _, _, _, h => h
  | .p (.str _), _, _, _, h => h
  | .p (.lst _), _, _, c, _ => by cases c
  | .p (.tup _), _, _, c, _ => by cases c
  | .p (.dic _), _, _, c, _ => by cases c
  | .p (.dit _), _, _, c, _ => by cases c
  | .p (.obj _ _), _, _, c, _ => by cases c
  | .p (.al _), _, _, c, _ => by cases c
  | .lst ts, _, _, c, ⟨a, vs, o', h1, h2, h3, h4⟩ => ⟨a, vs, o', h1, h2, RpTs.clean (show cleanTs ts = true from c) h3, h4⟩
  | .tup _, _, _, c, _ => by cases c
  | .dic _, _, _, c, _ => by cases c
  | .dit _, _, _, c, _ => by cases c
  | .obj _ _, _, _, c, _ => by cases c
  | .box _ _, _, _, c, _ => by cases c
  | .al _, _, _, c, _ => by cases c
  | .din _, _, _, c, _ => by cases c
theorem RpTs.clean : ∀ {ts : List T} {vs : List V} {o : List Addr}, cleanTs ts = true → RpTs K G H ts vs o → RpTs K G' H ts vs o
  | [], _, _, _, h => h
  | t :: ts, _, _, c, ⟨v, r, o1, o2, h1, h2, h3, h4⟩ => by
    have c' : (cleanT t && cleanTs ts) = true := c
    rw [Bool.and_eq_true] at c'
    exact ⟨v, r, o1, o2, h1, Rp.clean c'.1 h2, RpTs.clean c'.2 h3, h4⟩
end
end
def eCallB (φ : List D → Option T) (fa : AF) : EF := fun env => (fa env).bind fun r => (φ (T.toDs r.1)).bind fun t => if cleanT t then some (t, r.2) else none
theorem rpDs_views {K : KW} {H : Hp} : ∀ {us : List T} {ws : List V}, ws.length = us.length → (∀ q ∈ us.zip ws, RpD K H q.1.toD q.2) → RpDs K H (T.toDs us) ws
  | [], [], _, _ => rfl
  | u :: us, w :: ws, hl, h => ⟨w, ws, rfl, h (u, w) (by simp), rpDs_views (by simpa using hl) fun q hq => h q (by simp [hq])⟩
  | [], _ :: _, hl, _ => by simp at hl
  | _ :: _, [], hl, _ => by simp at hl
theorem ev_callB {K : KW} {n : Nat} {φ : List D → Option T} {ta : TA} {fa : AF} (hφ : ∀ ds t, φ ds = some t → ds.length = n) (ha : EvVs K ta fa) : EvT K (tCall (spD n φ K) [] E0 ta) (eCallB φ fa) := by
  intro G0 H0 W H ts vs env σ t env' S g Q q
  obtain ⟨⟨us, e1⟩, g1, g2⟩ := obind g
  obtain ⟨t', g3, g4⟩ := obind g2
  by_cases hc : cleanT t' = true
  · rw [if_pos hc] at g4
    cases g4
    refine ha _ _ _ _ _ _ _ _ _ _ S g1 _ fun ws H1 s1 hl S1 => ?_
    have hds := rpDs_views hl fun q hq => S1.see (List.mem_append_left _ hq)
    have S2 := S1.views (W' := W) fun q hq => List.mem_append_right _ hq
    obtain ⟨G, ot, oe, s⟩ := S2
    refine ⟨T.toDs us, t, H1, hφ _ _ g3, g3, Same.refl _, by rw [List.append_nil]; exact hds, fun v G' H' o h1 h2 h3 h4 h5 h6 h7 => ?_⟩
    refine q v H' (s1.trans h3) (OkS.called s (Same.refl G) (fun b u e => h3 b u (s.gh b u e)) h3 (h4.clean hc) h5 (fun a ha => ⟨Same.none s.gh (h6 a ha).2, (h6 a ha).2⟩) fun a u e => .inl (by rw [e]; simp))
  · rw [if_neg hc] at g4; cases g4
theorem dt_callB {X : Cx} {k : Nat} {f : Addr} {fd : FuncData} {ps : List Str} {n : Nat} {φ : List D → Option T} {x : Str} {p pos : Pos} {e : Expr} {es : List Expr} {ta : TA} {fa : AF}
    (hφ : ∀ ds t, φ ds = some t → ds.length = n) (F : FnOk X.prog X.w X.K X.mg X.base CX0 k f fd ps (spD n φ X.kw)) (hr : Room k X.A) (hg : Gl X x) (hm : X.mg x = some (.ref f)) (hk : PySem.W.keepIn X.K (.ref f) = true) (hb : Binds X.K fd ps [])
    (ha : DVs X (e :: es) ta fa) (hdb : (x == ("__debug__" : Str)) = false := by decide) (he : starEach (e :: es) X.env = (false, eval e X.env) :: starEach es X.env := by rfl) (hpl : (backTo pos (starEach es X.env)).any (·.1) = false := by rfl) :
    DT X (.Call (.Name x p) (e :: es) [] pos) (tCall (spD n φ X.kw) [] E0 ta) (eCallB φ fa) := ⟨pe_call F hr hg hm hk hb .nil pass0 ha.pa hdb he hpl, ev_callB hφ ha.ok⟩
def sForV (i : Nat) (G : GF) (body : SF) : SF := fun env => (atL env i).bind fun us => (allP us).bind fun ds => (loopD G body ds (env.set i none)).map fun r => (r.1, match r.1 with
  | .rt _ => r.2
  | _ => r.2.set i (some (.lst us)))
end DL
namespace DL
open PySem PySem.Spec PyProof.Rows L2
section
variable {env : Env} {i j : Int} {a b : D} {t : T} {f g : EF}
theorem gAdd_i : gAdd (.int i) (.int j) = some (.int (i + j)) := rfl
theorem gAdd_s {s u : Str} (h : s.length + u.length ≤ 16777216) : gAdd (.str s) (.str u) = some (.str (s ++ u)) := if_pos h
theorem gSub_i : gSub (.int i) (.int j) = some (.int (i - j)) := rfl
theorem gAddI_i : gAddI (.int i) (.int j) = some (.int (i + j)) := rfl
theorem gMul_l (h1 : -18446744073709551616 < i) (h2 : i < 18446744073709551616) : gMul (.int i) (.int j) = some (.int (i * j)) := if_pos (by unfold mulOk; exact decide_eq_true (.inl ⟨h1, h2⟩))
theorem gMul_r (h1 : -18446744073709551616 < j) (h2 : j < 18446744073709551616) : gMul (.int i) (.int j) = some (.int (i * j)) := if_pos (by unfold mulOk; exact decide_eq_true (.inr (.inl ⟨h1, h2⟩)))
theorem gDiv_i (h1 : 0 < j) (h2 : j < 1606938044258990275541962092341162602522202993782792835301376) : gDiv (.int i) (.int j) = some (.int (i / j)) := if_pos (by unfold divOk; exact decide_eq_true ⟨h1, h2⟩)
theorem gMod_i (h1 : 0 < j) : gMod (.int i) (.int j) = some (.int (i % j)) := if_pos (by unfold modOk; exact decide_eq_true h1)
theorem gPow_i (h1 : 0 ≤ j) (h2 : j ≤ 1000) (h3 : 0 ≤ i) (h4 : i < 18446744073709551616) : gPow (.int i) (.int j) = some (.int (i ^ j.toNat)) := if_pos (by unfold powOk; exact decide_eq_true ⟨h1, h2, h3, h4⟩)
theorem cLt_i : cLt (.int i) (.int j) = some (decide (i < j)) := rfl
theorem cLe_i : cLe (.int i) (.int j) = some (decide (i ≤ j)) := rfl
theorem cGt_i : cGt (.int i) (.int j) = some (decide (j < i)) := rfl
theorem cGe_i : cGe (.int i) (.int j) = some (decide (j ≤ i)) := rfl
theorem eqQ_i : eqQ (.int i) (.int j) = some (decide (i = j)) := by
  show (if scal (.int i) (.int j) = true then some (decide (V.int i = V.int j)) else none) = _
  rw [if_pos (show scal _ _ = true from rfl)]
  simp
theorem neQ_i : neQ (.int i) (.int j) = some (!decide (i = j)) := by unfold neQ; rw [eqQ_i]; rfl
theorem eqQ_s {s u : Str} : eqQ (.str s) (.str u) = some (decide (s = u)) := by
  show (if scal (.str s) (.str u) = true then some (decide (V.str s = V.str u)) else none) = _
  rw [if_pos (show scal _ _ = true from rfl)]
  simp
theorem eqQ_b {s u : Bool} : eqQ (.bl s) (.bl u) = some (decide (s = u)) := by
  show (if scal (.bl s) (.bl u) = true then some (decide (V.bl s = V.bl u)) else none) = _
  rw [if_pos (show scal _ _ = true from rfl)]
  simp
theorem neQ_b {s u : Bool} : neQ (.bl s) (.bl u) = some (!decide (s = u)) := by unfold neQ; rw [eqQ_b]; rfl
theorem toPys_ints : ∀ ns : List Int, toPys (ns.map D.int) = some (ns.map PyData.int)
  | [] => rfl
  | n :: ns => by
    show (toPy (.int n)).bind (fun p => (toPys (ns.map D.int)).map (p :: ·)) = _
    rw [toPys_ints ns]; rfl
theorem canLay_ints : ∀ ns : List Int, PyData.canLayAll0 (ns.map PyData.int) = true
  | [] => rfl
  | n :: ns => by show (PyData.canLay0 (.int n) && PyData.canLayAll0 (ns.map PyData.int)) = true; rw [canLay_ints ns]; rfl
theorem depth_ints : ∀ ns : List Int, PyData.depthAll (ns.map PyData.int) = 0
  | [] => rfl
  | n :: ns => by show max (PyData.depth (.int n)) (PyData.depthAll (ns.map PyData.int)) = 0; rw [depth_ints ns]; rfl
theorem shaped_ints (ns : List Int) : SeqAt.shaped (.list (ns.map PyData.int)) = true := by
  unfold SeqAt.shaped
  rw [show PyData.canLay0 (.list (ns.map PyData.int)) = PyData.canLayAll0 (ns.map PyData.int) from rfl, canLay_ints, show PyData.depth (.list (ns.map PyData.int)) = PyData.depthAll (ns.map PyData.int) + 1 from rfl, depth_ints]
  rfl
theorem eqvAll_ints : ∀ ns ms : List Int, PyData.eqvAll (ns.map PyData.int) (ms.map PyData.int) = decide (ns = ms)
  | [], [] => rfl
  | [], m :: ms => rfl
  | n :: ns, [] => rfl
  | n :: ns, m :: ms => by
    show (PyData.eqv (.int n) (.int m) && PyData.eqvAll (ns.map PyData.int) (ms.map PyData.int)) = _
    rw [eqvAll_ints ns ms]
    show ((n == m) && decide (ns = ms)) = _
    rw [Bool.eq_iff_iff]; simp
theorem eqQ_ints {ns ms : List Int} : eqQ (.lst (ns.map D.int)) (.lst (ms.map D.int)) = some (decide (ns = ms)) := by
  show eqDeep _ _ = _
  unfold eqDeep
  rw [show toPy (.lst (ns.map D.int)) = some (.list (ns.map PyData.int)) by show (toPys _).map _ = _; rw [toPys_ints]; rfl, show toPy (.lst (ms.map D.int)) = some (.list (ms.map PyData.int)) by show (toPys _).map _ = _; rw [toPys_ints]; rfl]
  show (if (SeqAt.shaped _ && SeqAt.shaped _) = true then some (PyData.eqv _ _) else none) = _
  rw [shaped_ints, shaped_ints, if_pos (show (true && true) = true from rfl)]
  exact congrArg some (eqvAll_ints ns ms)
theorem neQ_ints {ns ms : List Int} : neQ (.lst (ns.map D.int)) (.lst (ms.map D.int)) = some (!decide (ns = ms)) := by unfold neQ; rw [eqQ_ints]; rfl
theorem allP_map (ds : List D) : allP (ds.map T.p) = some ds := by
  induction ds with
  | nil => rfl
  | cons d ds ih => simp [allP, ih]
theorem itemsT_l {ds : List D} : itemsT (.lst (ds.map T.p)) = some ds := allP_map ds
theorem toD_l {ds : List D} : (T.lst (ds.map T.p)).toD = .lst ds := by show D.lst (T.toDs _) = _; rw [toDs_p]
theorem gSum_p {ns : List Int} : gSum (.p (.lst (ns.map D.int))) = some (.int ns.sum) := by
  show (intsD (ns.map D.int)).map _ = _
  rw [intsD_map]; rfl
theorem gSum_l {ns : List Int} : gSum (.lst ((ns.map D.int).map T.p)) = some (.int ns.sum) := by
  unfold gSum
  rw [toD_l]
  show (intsD (ns.map D.int)).map _ = _
  rw [intsD_map]; rfl
theorem gLen_p {ds : List D} : gLen (.p (.lst ds)) = some (.int ds.length) := rfl
theorem gLen_l {ts : List T} : gLen (.lst ts) = some (.int ts.length) := rfl
end
theorem atI_0 {α : Type} {x0 : α} {xs : List α} : atI (x0 :: xs) 0 = some x0 := atI_nat (j := 0) rfl
theorem atI_1 {α : Type} {x0 x1 : α} {xs : List α} : atI (x0 :: x1 :: xs) 1 = some x1 := atI_nat (j := 1) rfl
theorem atI_2 {α : Type} {x0 x1 x2 : α} {xs : List α} : atI (x0 :: x1 :: x2 :: xs) 2 = some x2 := atI_nat (j := 2) rfl
theorem atI_3 {α : Type} {x0 x1 x2 x3 : α} {xs : List α} : atI (x0 :: x1 :: x2 :: x3 :: xs) 3 = some x3 := atI_nat (j := 3) rfl
theorem atI_4 {α : Type} {x0 x1 x2 x3 x4 : α} {xs : List α} : atI (x0 :: x1 :: x2 :: x3 :: x4 :: xs) 4 = some x4 := atI_nat (j := 4) rfl
theorem atI_5 {α : Type} {x0 x1 x2 x3 x4 x5 : α} {xs : List α} : atI (x0 :: x1 :: x2 :: x3 :: x4 :: x5 :: xs) 5 = some x5 := atI_nat (j := 5) rfl
theorem atI_6 {α : Type} {x0 x1 x2 x3 x4 x5 x6 : α} {xs : List α} : atI (x0 :: x1 :: x2 :: x3 :: x4 :: x5 :: x6 :: xs) 6 = some x6 := atI_nat (j := 6) rfl
theorem ixT_lst {ts : List T} {i : Int} : ixT (.lst ts) i = atI ts i := rfl
theorem ixT_pl {ds : List D} {i : Int} : ixT (.p (.lst ds)) i = (atI ds i).map T.p := rfl
theorem ixT_pt {ds : List D} {i : Int} : ixT (.p (.tup ds)) i = (atI ds i).map T.p := rfl
theorem atI_map {α β : Type} (f : α → β) (xs : List α) (i : Int) : atI (xs.map f) i = (atI xs i).map f := by
  unfold atI
  rw [List.length_map]
  cases ixN xs.length i with
  | none => rfl
  | some j => show (xs.map f)[j]? = (xs[j]?).map f; rw [List.getElem?_map]
theorem kit_ii : kitB "int" "int" = some true := by decide +kernel
theorem kit_ib : kitB "int" "bool" = some false := by decide +kernel
theorem kit_ll : kitB "list" "list" = some true := by decide +kernel
theorem kit_bb : kitB "bool" "bool" = some true := by decide +kernel
theorem kit_bi : kitB "bool" "int" = some true := by decide +kernel
theorem kit_ss : kitB "str" "str" = some true := by decide +kernel
theorem kit_tt : kitB "tuple" "tuple" = some true := by decide +kernel
theorem kit_tl : kitB "tuple" "list" = some false := by decide +kernel
theorem kit_lt : kitB "list" "tuple" = some false := by decide +kernel
theorem kit_ls : kitB "list" "str" = some false := by decide +kernel
theorem kit_li : kitB "list" "int" = some false := by decide +kernel
theorem kit_lb : kitB "list" "bool" = some false := by decide +kernel
theorem kit_is : kitB "int" "str" = some false := by decide +kernel
theorem kit_si : kitB "str" "int" = some false := by decide +kernel
theorem kit_sb : kitB "str" "bool" = some false := by decide +kernel
theorem kit_ti : kitB "tuple" "int" = some false := by decide +kernel
theorem kit_tb : kitB "tuple" "bool" = some false := by decide +kernel
theorem kit_ts : kitB "tuple" "str" = some false := by decide +kernel
end DL
namespace DL
open PySem PySem.Spec PyProof.Rows L2
def strsD : List D → Option (List Str)
  | [] => some []
  | .str s :: r => (strsD r).map (s :: ·)
  | _ => none
def eM1 (g : Str → Str → Option D) (fo fe : EF) : EF := fun env => (fo env).bind fun x => (fe x.2).bind fun y => match x.1, y.1 with
  | .p (.str a), .p (.str b) => (g a b).map fun d => (.p d, y.2)
  | _, _ => none
theorem eM1_some {g : Str → Str → Option D} {fo fe : EF} {t : T} {env env' : Env} (h : eM1 g fo fe env = some (t, env')) : ∃ a e1 b d, fo env = some (.p (.str a), e1) ∧ fe e1 = some (.p (.str b), env') ∧ g a b = some d ∧ t = .p d := by
  obtain ⟨⟨x, e1⟩, h1, h2⟩ := obind h
  obtain ⟨⟨y, e2⟩, h3, h4⟩ := obind h2
  dsimp only at h4
  split at h4
  · obtain ⟨d, h5, h6⟩ := omap h4
    cases h6
    exact ⟨_, e1, _, d, h1, h3, h5, rfl⟩
  · cases h4
section
variable {X : Cx} {o e a b : Expr} {to te ta tb : TE} {fo fe fa fb : EF} {apos pos : Pos}
theorem dt_m1 {id : String} {name : Str} {r : V → List V → Hp → VK → Prop} {g : Str → Str → Option D} (slot : Slot "str" name id) (ty : typeOf (.builtin id) = pure (.type "method_descriptor")) (rule : MtR X id r)
    (hr : ∀ a b d (H : Hp) (Q : VK), g a b = some d → (∀ u, (∀ (K : KW) G, RpD K G d u) → Q u H) → r (.str a) [.str b] H Q) (ho : DT X o to fo) (he : DT X e te fe)
    (hs : starEach [e] X.env = [(false, eval e X.env)] := by rfl) (hbase : attributeBase o name X.env (eval o X.env) = eval o X.env := by rfl) (hline : (apos.endLine == pos.line) = true := by rfl) :
    DT X (.Call (.Attribute o name apos) [e] [] pos) (tM1 r to te) (eM1 g fo fe) := by
  refine ⟨pe_m1 slot ty rule ho.pe he.pe hs hbase hline, ?_⟩
  intro G0 H0 W H ts vs env σ t env' S h Q q
  obtain ⟨a, e1, b, d, h1, h2, h3, rfl⟩ := eM1_some h
  refine ho.ok _ _ _ _ _ _ _ _ _ _ S h1 _ fun v H1 s1 S1 => ?_
  have ev : v = .str a := S1.top
  refine ⟨⟨a, ev⟩, ?_⟩
  refine he.ok _ _ _ _ _ _ _ _ _ _ S1 h2 _ fun w H2 s2 S2 => ?_
  have ew : w = .str b := S2.top
  rw [ev, ew]
  exact hr a b d H2 Q h3 fun u hu => q u H2 (s1.trans s2) (S2.pop.pop.scal (hu X.kw))
def gStarts (a b : Str) : Option D := some (.bl (Txt.startswith a b))
def gFind (a b : Str) : Option D := some (.int (Txt.find a b))
def eSplit (fo fe : EF) : EF := fun env => (fo env).bind fun x => (fe x.2).bind fun y => match x.1, y.1 with
  | .p (.str a), .p (.str b) => if (b.length == 0) = false ∧ a.length + 2 ≤ 16777216 then some (.lst (((Txt.split a b).map D.str).map T.p), y.2) else none
  | _, _ => none
def eJoin (fo fe : EF) : EF := fun env => (fo env).bind fun x => (fe x.2).bind fun y => match x.1 with
  | .p (.str a) => (itemsT y.1).bind fun ds => (strsD ds).bind fun ys => if (ys.map (·.length)).sum + ys.length * a.length ≤ 16777216 then some (.p (.str (Txt.join a ys)), y.2) else none
  | _ => none
end
def repS (z : Str) (n : Int) : Str := ⟨((List.replicate n.toNat z.cps.toList).flatten).toArray⟩
def gMulA : D → D → Option D
  | .int i, .int j => gMul (.int i) (.int j)
  | .str z, .int n => if -1000000000 < n ∧ n < 1000000000 ∧ z.length * n.toNat ≤ 16777216 then some (.str (repS z n)) else none
  | _, _ => none
def eCat (fa fb : EF) : EF := fun env => (fa env).bind fun x => (fb x.2).bind fun y => (itemsT x.1).bind fun ds => (itemsT y.1).bind fun es =>
  if isLT x.1 = true ∧ isLT y.1 = true ∧ ds.length + es.length ≤ 16777216 then some (.lst ((ds ++ es).map T.p), y.2) else none
def eFz (f : EF) : EF := fun env => (f env).map fun r => (.p r.1.toD, r.2)
theorem dt_fz {X : Cx} {e : Expr} {te : TE} {f : EF} (h : DT X e te f) : DT X e te (eFz f) := by
  refine ⟨h.pe, ?_⟩
  intro G0 H0 W H ts vs env σ t env' S g Q q
  obtain ⟨⟨x, e1⟩, h1, h2⟩ := omap g
  cases h2
  exact h.ok _ _ _ _ _ _ _ _ _ _ S h1 _ fun v H1 s1 S1 => q v H1 s1 S1.frz
def aMv (i : Nat) (r : AF) : AF := fun env => match env[i]? with
  | some (some _) => (r env).bind fun y => match y.2[i]? with
    | some (some t) => some (t :: y.1, y.2.set i none)
    | _ => none
  | _ => none
def Less (K K' : PySem.W.Frag) : Prop := ∀ (b : Addr) (o : Obj), K.lookup b = some o → ¬ (o.cls = .type "list" ∧ ∃ its n, o.data = .seq its n) → K'.lookup b = some o
section
variable {K K' : PySem.W.Frag}
theorem Less.refl (K : PySem.W.Frag) : Less K K := fun _ _ e _ => e
theorem Less.fn (L : Less K K') {f : Addr} {oc : Value} {od : Option Addr} {fd : FuncData} {sl : Array (Option Value)} (h : K.lookup f = some ⟨oc, od, .func fd, sl⟩) : K'.lookup f = some ⟨oc, od, .func fd, sl⟩ := L _ _ h fun ⟨_, _, _, e⟩ => nomatch e
theorem Less.code (L : Less K K') {cd : Value} {z : Str} (h : PySem.W.codeIn K cd z = true) : PySem.W.codeIn K' cd z = true := by
  unfold PySem.W.codeIn at h ⊢
  cases cd with
  | ref c =>
    dsimp only at h ⊢
    split at h
    · rename_i e
      rw [L _ _ e fun ⟨_, _, _, e⟩ => nomatch e]
      exact h
    · cases h
  | _ => cases h
theorem Less.keep (L : Less K K') {f : Addr} {oc : Value} {od : Option Addr} {fd : FuncData} {sl : Array (Option Value)} (h : K.lookup f = some ⟨oc, od, .func fd, sl⟩) : PySem.W.keepIn K' (.ref f) = true := by
  unfold PySem.W.keepIn
  dsimp only
  rw [L.fn h]
theorem Less.fun {x qual : Str} {st : Stmt} {f : Addr} {fd : FuncData} (L : Less K K') (F : Fun K x qual st f fd) : Fun K' x qual st f fd := by
  obtain ⟨oc, od, kV, doc, pm, an, cdv, ct, osl, e, lk, hcd⟩ := F.ex
  exact ⟨⟨oc, od, kV, doc, pm, an, cdv, ct, osl, e, L.fn lk, L.code hcd⟩, L.keep lk⟩
theorem look_filter (a : Addr) : ∀ (K : PySem.W.Frag) (b : Addr), List.lookup b (K.filter fun p => !(p.1 == a)) = if b = a then none else List.lookup b K
  | [], b => by simp
  | (c, o) :: K, b => by
    by_cases hc : c = a
    · subst hc
      rw [List.filter_cons_of_neg (by simp), look_filter c K b]
      by_cases hb : b = c
      · rw [if_pos hb, if_pos hb]
      · rw [if_neg hb, if_neg hb, List.lookup_cons, show (b == c) = false by simpa using hb]
    · rw [List.filter_cons_of_pos (by simpa using hc), List.lookup_cons, look_filter a K b, List.lookup_cons]
      by_cases hb : b = c
      · subst hb; simp [hc]
      · rw [show (b == c) = false by simpa using hb]
end
theorem walk_D {l : PySem.W.OpenLaw} {n k : Nat} {q : Program} {loose : List Str} {XP : (Str → Option Value) → Heap → Prop} {YP : World → Heap → Prop} {d : DefRec} {K : Params → PySem.W.Frag} {φ : List D → Option T} {x : Str}
    (hn : l.most = some n) (hn2 : n ≤ sizeLine) (hdf : d.params.defaults = []) (hr : Room k callerA) (hY : ∀ (w : World) (h : Heap), YP w h → (K w.params).In h)
    (F : ∀ (w : World) (mg : Str → Option Value) (fa : Addr) (h : Heap), (K w.params).In h → h.Ns mainGlobals mg → mg d.name = some (.ref fa) →
      ∃ fd : FuncData, (∀ (s : Shared) (u : Value), BindsTo s fd ⟨[u], []⟩ [(x, u)]) ∧ ∀ (K' : PySem.W.Frag) (base : Heap), Less (K w.params) K' → FnOk l.prog w K' mg base CX0 k fa fd [x] (spD 1 φ ⟨K', l.prog, w⟩))
    (M : ∀ ns : List Int, ns.length ≤ n → (∀ z ∈ ns, Builtin.Int.intBits z ≤ 1048576) → φ [.lst (ns.map D.int)] = some (.p (.bl true))) :
    PySem.W.WalkO q loose XP YP l.row.toRowW d [] (fun f vs => PySem.call f vs) := by
  refine Att.attach_callB hn hdf fun w s₀ s₁ mg mb fa o pm cd doc a vs ns G Y ho hd hcd hmg hobj hints hlen hbits hg => ?_
  have KX := hY w _ Y
  obtain ⟨fd, hb, hF⟩ := F w mg fa _ KX G.T.g hmg
  have hM := M ns hlen hbits
  have go : ∀ K' : PySem.W.Frag, K'.In s₁.heap → List.lookup a K' = none → Less (K w.params) K' → codeAny (model l.prog w) callerA (.call (.ref fa) ⟨[.ref a], []⟩) (fun r s' => r = .ok (.ret (.bool true)) ∧ OldK s₁.heap s'.heap ∧ s'.os = s₁.os ∧ AllBare s'.gens) s₁ := fun K' KI hk L =>
    law_call (K := K') KI G.T.g G.T.b G.T.builtins G.T.nolimit hg hobj hints (Nat.le_trans hlen hn2) hr (fun base _ _ => hF K' base L) hb (fun H hO hS => by
      rcases hS with hS | ⟨o, its, n, e, _⟩
      · exact end_law hM hS
      · have e' : List.lookup a K' = some o := e
        rw [hk] at e'; cases e') fun _ _ _ h => h
  cases hk : List.lookup a (K w.params) with
  | none => exact go _ KX hk (Less.refl _)
  | some o1 =>
    have e1 := KX a o1 hk
    rw [hobj] at e1
    cases e1
    refine go ((K w.params).filter fun p => !(p.1 == a)) (fun b o e => ?_) ?_ fun b o e hn => ?_
    · have e' : List.lookup b ((K w.params).filter fun p => !(p.1 == a)) = some o := e
      rw [look_filter] at e'
      by_cases hb : b = a
      · rw [if_pos hb] at e'; cases e'
      · rw [if_neg hb] at e'; exact KX b o e'
    · rw [look_filter, if_pos rfl]
    · show List.lookup b ((K w.params).filter fun p => !(p.1 == a)) = some o
      rw [look_filter]
      by_cases hb : b = a
      · subst hb
        have e2 : List.lookup b (K w.params) = some o := e
        rw [hk] at e2; cases e2
        exact absurd ⟨rfl, _, _, rfl⟩ hn
      · rw [if_neg hb]; exact e
end DL
namespace DL
open PySem PySem.Spec PyProof.Rows L2
section
variable {K : KW} {G0 H0 H : Hp} {W : List (T × V)} {ts : List T} {vs : List V} {env : Env} {σ : St} {t : T} {v : V}
theorem OkS.newDic {p : Addr} (S : OkS K G0 H0 W H ts vs env σ) (hp : H p = none) : OkS K G0 H0 W (upd H p (.dK [])) (.dic [] :: ts) (.ref p :: vs) env σ := by
  obtain ⟨G, ot, oe, s⟩ := S
  have gp : G p = none := Same.none s.gh hp
  have ne : ∀ a u, H a = some u → a ≠ p := fun a u e z => by rw [z, hp] at e; cases e
  have k2 : ∀ a ∈ ot, upd H p (.dK []) a = H a := fun a ha => by
    obtain ⟨u, e, _⟩ := s.tmp.there _ a ha
    exact upd_ne (ne a u e)
  have k3 : ∀ a ∈ oe, upd H p (.dK []) a = H a := fun a ha => by
    obtain ⟨u, e, _⟩ := s.env.there _ a ha
    exact upd_ne (ne a u e)
  have all : ∀ a ∈ ot ++ oe, ∃ u, H a = some u := fun a ha => by
    rcases List.mem_append.mp ha with ha | ha
    · obtain ⟨u, e, _⟩ := s.tmp.there _ a ha; exact ⟨u, e⟩
    · obtain ⟨u, e, _⟩ := s.env.there _ a ha; exact ⟨u, e⟩
  refine ⟨G, p :: ot, oe, ⟨.ref p, vs, [p], ot, rfl, ⟨p, [], [], rfl, upd_same, ⟨rfl, rfl⟩, rfl⟩, s.tmp.mono (Same.refl _) _ k2, rfl⟩, s.env.mono (Same.refl _) _ k3, ?_, fun a ha => ?_, s.g0, fun b u e => ?_, fun b u e => ?_, s.nw, fun q hq => ?_⟩
  · rw [List.cons_append]
    refine List.nodup_cons.mpr ⟨fun z => ?_, s.nd⟩
    obtain ⟨u, e⟩ := all p z
    rw [hp] at e; cases e
  · rw [List.cons_append] at ha
    rcases List.mem_cons.mp ha with e | ha
    · subst e; exact ⟨gp, Same.none s.h0 hp⟩
    · exact s.fr a ha
  · rw [upd_ne (ne b u (s.gh b u e))]; exact s.gh b u e
  · rw [upd_ne (ne b u (s.h0 b u e))]; exact s.h0 b u e
  · obtain ⟨o, h⟩ := s.vw q hq
    refine ⟨o, h.mono (Same.refl _) _ fun a ha => ?_⟩
    obtain ⟨u, e, _⟩ := h.there _ a ha
    exact upd_ne (ne a u e)
def pairsT (kvs : List (Key × D)) : List (Key × T) := kvs.map fun kv => (kv.1, T.p kv.2)
theorem rpTk_of {G : Hp} : ∀ {kvs : List (Key × D)} {xs : List (Key × V)} {o : List Addr}, RpTk K G H (pairsT kvs) xs o → RpKs K G kvs xs ∧ o = []
  | [], _, _, h => h
  | (k, d) :: r, _, _, ⟨v, r', o1, o2, h1, h2, h3, h4⟩ => by
    obtain ⟨g1, g2⟩ := rpTk_of h3
    exact ⟨⟨v, r', h1, h2.1, g1⟩, by rw [h4, h2.2, g2]; rfl⟩
theorem rpTk_mk {G : Hp} : ∀ {kvs : List (Key × D)} {xs : List (Key × V)}, RpKs K G kvs xs → RpTk K G H (pairsT kvs) xs []
  | [], _, h => ⟨h, rfl⟩
  | (k, d) :: r, _, ⟨v, r', h1, h2, h3⟩ => ⟨v, r', [], [], h1, ⟨h2, rfl⟩, rpTk_mk h3, rfl⟩
def putD (kvs : List (Key × D)) (k : Key) (d : D) : List (Key × D) := if (kvs.any fun kv => decide (kv.1 = k)) = true then kvs.map (fun kv => if kv.1 = k then (kv.1, d) else kv) else kvs ++ [(k, d)]
def valD (kvs : List (Key × D)) (k : Key) : Option D := (kvs.find? fun kv => decide (kv.1 = k)).map (·.2)
theorem RpKs.any {G : Hp} (k : Key) : ∀ {kvs : List (Key × D)} {xs : List (Key × V)}, RpKs K G kvs xs → (xs.any fun kv => decide (kv.1 = k)) = kvs.any fun kv => decide (kv.1 = k)
  | [], xs, h => by rw [show xs = [] from h]; rfl
  | (j, d) :: r, _, ⟨v, r', h1, h2, h3⟩ => by rw [h1, List.any_cons, List.any_cons, RpKs.any k h3]
theorem RpKs.upd {G : Hp} (k : Key) {d : D} {v : V} (hv : RpD K G d v) : ∀ {kvs : List (Key × D)} {xs : List (Key × V)}, RpKs K G kvs xs → RpKs K G (kvs.map (fun kv => if kv.1 = k then (kv.1, d) else kv)) (xs.map (fun kv => if kv.1 = k then (kv.1, v) else kv))
  | [], xs, h => by rw [show xs = [] from h]; exact rfl
  | (j, e) :: r, _, ⟨w, r', h1, h2, h3⟩ => by
    subst h1
    rw [List.map_cons, List.map_cons]
    have ih := RpKs.upd k hv h3
    by_cases c : j = k
    · rw [if_pos c, if_pos c]; exact ⟨v, _, rfl, hv, ih⟩
    · rw [if_neg c, if_neg c]; exact ⟨w, _, rfl, h2, ih⟩
theorem RpKs.app {G : Hp} {k : Key} {d : D} {v : V} (hv : RpD K G d v) : ∀ {kvs : List (Key × D)} {xs : List (Key × V)}, RpKs K G kvs xs → RpKs K G (kvs ++ [(k, d)]) (xs ++ [(k, v)])
  | [], xs, h => by rw [show xs = [] from h]; exact ⟨v, [], rfl, hv, rfl⟩
  | (j, e) :: r, _, ⟨w, r', h1, h2, h3⟩ => by subst h1; exact ⟨w, _, rfl, h2, RpKs.app hv h3⟩
theorem RpKs.put {G : Hp} {k : Key} {d : D} {v : V} (hv : RpD K G d v) {kvs : List (Key × D)} {xs : List (Key × V)} (h : RpKs K G kvs xs) : RpKs K G (putD kvs k d) (putK xs k v) := by
  unfold putD putK
  rw [h.any k]
  split
  · exact h.upd k hv
  · exact h.app hv
theorem RpKs.val {G : Hp} (k : Key) : ∀ {kvs : List (Key × D)} {xs : List (Key × V)}, RpKs K G kvs xs → (valD kvs k = none → valV xs k = none) ∧ ∀ d, valD kvs k = some d → ∃ v, valV xs k = some v ∧ RpD K G d v
  | [], xs, h => by rw [show xs = [] from h]; exact ⟨fun _ => rfl, fun d h => (nomatch h)⟩
  | (j, e) :: r, _, ⟨w, r', h1, h2, h3⟩ => by
    subst h1
    by_cases c : j = k
    · have e1 : valD ((j, e) :: r) k = some e := by simp [valD, List.find?_cons, c]
      rw [e1, valV_pos (by exact c)]
      exact ⟨fun h => (nomatch h), fun d h => by cases h; exact ⟨w, rfl, h2⟩⟩
    · have e1 : valD ((j, e) :: r) k = valD r k := by simp [valD, List.find?_cons, c]
      rw [e1, valV_neg (by exact c)]
      exact RpKs.val k h3
theorem RpKs.length {G : Hp} : ∀ {kvs : List (Key × D)} {xs : List (Key × V)}, RpKs K G kvs xs → xs.length = kvs.length
  | [], xs, h => by rw [show xs = [] from h]; rfl
  | (j, e) :: r, _, ⟨w, r', h1, h2, h3⟩ => by subst h1; simp [RpKs.length h3]
theorem OkS.wrDic {kvs : List (Key × D)} {es : List T} {ws : List V} (S : OkS K G0 H0 W H (.dic (pairsT kvs) :: (es ++ ts)) (v :: (ws ++ vs)) env σ) (hw : ws.length = es.length) : ∃ a xs, v = .ref a ∧ H a = some (.dK xs) ∧ xs.length = kvs.length ∧
    ∀ (kvs' : List (Key × D)) (xs' : List (Key × V)), (∀ (G : Hp) (o2 : List Addr), RpKs K G kvs xs → RpTs K G H es ws o2 → RpKs K G kvs' xs') → OkS K G0 H0 [] (upd H a (.dK xs')) (.dic (pairsT kvs') :: ts) (.ref a :: vs) env σ := by
  obtain ⟨G, ot, oe, s⟩ := S
  obtain ⟨v0, r0, oa, ob, h1, ⟨a, xs, o1, e1, e2, e3, e4⟩, h3, h4⟩ := s.tmp
  cases h1
  obtain ⟨o2, o3, k1, k2, k3⟩ := h3.split hw
  obtain ⟨z1, z2⟩ := rpTk_of e3
  subst z2
  refine ⟨a, xs, e1, e2, z1.length, fun kvs' xs' hf => ?_⟩
  have f1 := hf G o2 z1 k1
  have pm : (ot ++ oe).Perm (a :: (o3 ++ oe) ++ o2) := by
    rw [h4, e4, k3]
    have q1 : (a :: ([] : List Addr) ++ (o2 ++ o3) ++ oe) = a :: (o2 ++ (o3 ++ oe)) := by simp
    rw [q1, List.cons_append]
    exact List.Perm.cons a List.perm_append_comm
  have nd := (List.nodup_append.mp (pm.nodup_iff.mp s.nd)).1
  have na : ∀ b ∈ o3 ++ oe, b ≠ a := fun b hb e => by
    subst e
    exact (List.nodup_cons.mp nd).1 hb
  have kp : ∀ b ∈ o3 ++ oe, upd H a (.dK xs') b = H b := fun b hb => upd_ne (na b hb)
  have fr : ∀ b ∈ a :: (o3 ++ oe), G b = none ∧ H0 b = none := fun b hb => s.fr b (pm.mem_iff.mpr (List.mem_append_left _ hb))
  refine ⟨G, a :: o3, oe, ⟨.ref a, vs, [a], o3, rfl, ⟨a, xs', [], rfl, upd_same, rpTk_mk f1, rfl⟩, k2.mono (Same.refl _) _ (fun b hb => kp b (by simp [hb])), rfl⟩, s.env.mono (Same.refl _) _ (fun b hb => kp b (by simp [hb])), by simpa using nd, fun b hb => fr b (by simpa using hb), s.g0, fun b u e => ?_, fun b u e => ?_, s.nw, fun q hq => by cases hq⟩
  · have : b ≠ a := fun z => by subst z; rw [(fr b (by simp)).1] at e; cases e
    rw [upd_ne this]; exact s.gh b u e
  · have : b ≠ a := fun z => by subst z; rw [(fr b (by simp)).2] at e; cases e
    rw [upd_ne this]; exact s.h0 b u e
end
def eDn : EF := fun env => some (.dic [], env)
theorem dt_dn {X : Cx} {pos : Pos} : DT X (.Dict [] [] pos) tDNewK eDn := by
  refine ⟨pe_dnewK, ?_⟩
  intro G0 H0 W H ts vs env σ t env' S g Q q
  cases g
  exact fun p hp => q _ _ (same_upd hp) (S.newDic hp)
def frzK : List (Key × T) → Option (List (Key × D))
  | [] => some []
  | (k, .p d) :: r => (frzK r).map ((k, d) :: ·)
  | _ :: _ => none
theorem frzK_eq : ∀ {kvs : List (Key × T)} {ds : List (Key × D)}, frzK kvs = some ds → kvs = pairsT ds
  | [], ds, h => by cases h; rfl
  | (k, .p d) :: r, ds, h => by
    obtain ⟨es, h1, h2⟩ := omap (show (frzK r).map ((k, d) :: ·) = some ds from h)
    subst h2
    rw [frzK_eq h1]; rfl
  | (_, .lst _) :: _, _, h => by cases h
  | (_, .tup _) :: _, _, h => by cases h
  | (_, .dic _) :: _, _, h => by cases h
theorem frzK_pairs : ∀ ds : List (Key × D), frzK (pairsT ds) = some ds
  | [] => rfl
  | (k, d) :: r => by show (frzK (pairsT r)).map ((k, d) :: ·) = _; rw [frzK_pairs r]; rfl
def keyD : D → Option Key
  | .int i => some (.inl i)
  | .str s => some (.inr s)
  | _ => none
theorem keyD_rp {K : KW} {G : Hp} {d : D} {k : Key} {v : V} (h : keyD d = some k) (r : RpD K G d v) : v = kV k := by
  cases d with
  | int i => cases h; exact r
  | str s => cases h; exact r
  | _ => cases h
def atD (env : Env) (i : Nat) : Option (List (Key × D)) := match env[i]? with
  | some (some (.dic kvs)) => frzK kvs
  | _ => none
theorem atD_eq {env : Env} {i : Nat} {ds : List (Key × D)} (h : atD env i = some ds) : env[i]? = some (some (.dic (pairsT ds))) := by
  unfold atD at h
  split at h
  · rename_i kvs e
    rw [e, frzK_eq h]
  · cases h
def keyT : T → Option Key
  | .p d => keyD d
  | _ => none
def sPutD (i : Nat) (fk f : EF) : SF := fun env => (f env).bind fun r => (atD r.2 i).bind fun _ => (fk r.2).bind fun s => (keyT s.1).bind fun k => (atD s.2 i).bind fun kvs => match r.1 with
  | .p d => if kvs.length < 16000000 then some (.nx, s.2.set i (some (.dic (pairsT (putD kvs k d))))) else none
  | _ => none
section
variable {X : Cx} {e j : Expr} {te tj : TE} {f fj : EF} {pos npos ipos : Pos}
theorem ds_putD (i : Nat) {x : Str} (hu : X.A.units + 1 < cLine) (h : DT X e te f) (hj : DT X j tj fj) (hs : swapsWith e (some (.Subscript (.Name x npos) j ipos)) pos.line X.env = pure false := by rfl) (hN : X.N[i]? = some x := by rfl) (hv : Vis X.env.scope x := by first | exact Or.inl rfl | exact Or.inr (Or.inl rfl) | exact Or.inr (Or.inr rfl)) (hd : (x == ("__debug__" : Str)) = false := by decide)
    (hcd : (x == ("__classdict__" : Str)) = false := by decide) : DS X (.Assign [.Subscript (.Name x npos) j ipos] e pos) (sDPut (tVar i) tj te) (sPutD i fj f) [] := by
  refine ⟨ps_dput hu (pe_var hN hv hd hcd) hj.pe h.pe hs, ?_⟩
  intro G0 H0 H ts vs env σ fl env' S g D q
  obtain ⟨⟨t, e1⟩, g1, g2⟩ := obind g
  obtain ⟨us, g3, g4⟩ := obind g2
  have he1 := atD_eq g3
  obtain ⟨⟨y, e2⟩, g5, g6⟩ := obind g4
  obtain ⟨k, g7, g8⟩ := obind g6
  obtain ⟨kvs, g9, g10⟩ := obind g8
  have he2 := atD_eq g9
  dsimp only at g10
  cases t with
  | p d =>
    have g10 : (if kvs.length < 16000000 then some (Fl.nx, e2.set i (some (.dic (pairsT (putD kvs k d))))) else none) = some (fl, env') := g10
    by_cases hlen16 : kvs.length < 16000000
    · rw [if_pos hlen16] at g10
      cases g10
      cases y with
      | p kd =>
        have g7 : keyD kd = some k := g7
        refine h.ok _ _ _ _ _ _ _ _ _ _ S g1 _ fun w H1 s1 S1 => ?_
        obtain ⟨v, hv1, S2⟩ := S1.look he1
        refine ⟨v, hv1, ?_⟩
        refine hj.ok _ _ _ _ _ _ _ _ _ _ S2.unview g5 _ fun z H2 s2 S3 => ?_
        have ez : z = kV k := keyD_rp g7 S3.top
        obtain ⟨v2, hv2, S4⟩ := S3.pop.get he2
        rw [hv1] at hv2
        cases hv2
        obtain ⟨a, xs, k1, k2, k3, k4⟩ := OkS.wrDic (es := [.p d]) (ws := [w]) S4 rfl
        cases k1
        have hsz : xs.length < sizeLine := by rw [k3, sizeLine_eq]; omega
        have dp : DPut H2 a z w (upd H2 a (.dK (putK xs k w))) := by rw [ez]; exact DPut.k k2 hsz
        refine ⟨a, _, rfl, dp, ?_⟩
        have S5 := k4 (putD kvs k d) (putK xs k w) fun G o2 r1 r2 => by
          obtain ⟨v', r', p1, p2, q1, q2, q3, q4⟩ := r2
          cases q1
          exact r1.put q2.1
        have hlen : i < e2.length := (List.getElem?_eq_some_iff.mp he2).1
        have S6 := S5.put (i := i) (by simpa using hlen)
        rw [List.set_set, set_back hv1] at S6
        exact q _ _ S6 .rfl'
      | _ => cases g7
    · rw [if_neg hlen16] at g10; cases g10
  | _ => cases g10
end
def dicT : T → Option (List (Key × D))
  | .p (.dic kvs) => some kvs
  | .dic kvs => frzK kvs
  | _ => none
theorem St0.dic {K : KW} {G0 H0 G H : Hp} {W : List (T × V)} {ts : List T} {vs : List V} {env : Env} {σ : St} {ot oe : List Addr} {t : T} {v : V} {ds : List (Key × D)} (s : St0 K G0 H0 W G H ts vs env σ ot oe) (hq : (t, v) ∈ W) (h : dicT t = some ds) :
    ∃ a xs, v = .ref a ∧ Rd H a (.dK xs) ∧ RpKs K G ds xs := by
  obtain ⟨o, r⟩ := s.vw (t, v) hq
  cases t with
  | p d =>
    cases d with
    | dic kvs =>
      cases h
      obtain ⟨⟨a, xs, e1, e2, e3⟩, _⟩ := r
      exact ⟨a, xs, e1, Same.rd s.gh e2, e3⟩
    | _ => cases h
  | dic kvs =>
    have e := frzK_eq (show frzK kvs = some ds from h)
    subst e
    obtain ⟨a, xs, o', e1, e2, e3, e4⟩ := r
    exact ⟨a, xs, e1, .inl e2, (rpTk_of e3).1⟩
  | _ => cases h
section
variable {X : Cx} {o i x : Expr} {to ti tx : TE} {fo fi fx : EF} {pos apos : Pos}
def eDix (fo fi : EF) : EF := fun env => (fo env).bind fun r => (fi r.2).bind fun s => (dicT r.1).bind fun ds => (keyT s.1).bind fun k => (valD ds k).map fun d => (.p d, s.2)
theorem dt_dix (hu : X.A.units + 1 < cLine) (ho : DV X o to fo) (hi : DT X i ti fi) (hs : NoSl i := by exact fun _ _ => rfl) : DT X (.Subscript o i pos) (tDGet to ti) (eDix fo fi) := by
  refine ⟨pe_dget hu ho.pe hi.pe hs, ?_⟩
  intro G0 H0 W H ts vs env σ t env' S g Q q
  obtain ⟨⟨y, e1⟩, g1, g2⟩ := obind g
  obtain ⟨⟨z, e2⟩, g3, g4⟩ := obind g2
  obtain ⟨ds, g5, g6⟩ := obind g4
  obtain ⟨k, g7, g8⟩ := obind g6
  obtain ⟨d, g9, g10⟩ := omap g8
  cases g10
  cases z with
  | p kd =>
    refine ho.ok _ _ _ _ _ _ _ _ _ _ S g1 _ fun v H1 s1 S1 => ?_
    refine hi.ok _ _ _ _ _ _ _ _ _ _ S1 g3 _ fun w H2 s2 S2 => ?_
    have ew : w = kV k := keyD_rp (show keyD kd = some k from g7) S2.top
    obtain ⟨G, ot, oe, s⟩ := S2.pop
    obtain ⟨a, xs, ev, ha, rr⟩ := s.dic (t := y) (v := v) (by simp) g5
    obtain ⟨u, u1, u2⟩ := (rr.val k).2 d g9
    refine ⟨a, u, ev, by rw [ew, ← u1]; exact (.inl ⟨_, _, ha, rfl, rfl⟩ : DGet _ _ _ _), ?_⟩
    have s' : St0 X.kw G0 H0 W G H2 ts vs _ σ ot oe := ⟨s.tmp, s.env, s.nd, s.fr, s.g0, s.gh, s.h0, s.nw, fun q hq => s.vw q (List.mem_cons_of_mem _ hq)⟩
    have S3 := OkS.pushD (ds := [d]) (xs := [u]) s' ⟨u, [], rfl, u2, rfl⟩
    exact q u H2 (s1.trans s2) S3
  | _ => cases g7
def eDget (fo fi fx : EF) : EF := fun env => (fo env).bind fun r => (fi r.2).bind fun s => (fx s.2).bind fun u => (dicT r.1).bind fun ds => (keyT s.1).bind fun k => match u.1 with
  | .p z => some (.p ((valD ds k).getD z), u.2)
  | _ => none
def eDin (b : Bool) (fi fo : EF) : EF := fun env => (fi env).bind fun s => (fo s.2).bind fun r => (dicT r.1).bind fun ds => (keyT s.1).bind fun k => some (.p (.bl (if b then (valD ds k).isSome else !(valD ds k).isSome)), r.2)
theorem ev_din (b : Bool) {td : TE} (htd : td = if b then tDIn ti to else tDNotIn ti to) (ho : EvV X.kw to fo) (hi : EvV X.kw ti fi) : EvT X.kw td (eDin b fi fo) := by
  intro G0 H0 W H ts vs env σ t env' S g Q q
  obtain ⟨⟨z, e1⟩, g1, g2⟩ := obind g
  obtain ⟨⟨y, e2⟩, g3, g4⟩ := obind g2
  obtain ⟨ds, g5, g6⟩ := obind g4
  obtain ⟨k, g7, g8⟩ := obind g6
  cases g8
  cases z with
  | p kd =>
    have main : ti σ H fun w H1 => to σ H1 fun v H2 => ∃ a o, v = .ref a ∧ DGet H2 a w o ∧ Q (.bl (if b then o.isSome else !o.isSome)) H2 := by
      refine hi _ _ _ _ _ _ _ _ _ _ S g1 _ fun w H1 s1 S1 => ?_
      refine ho _ _ _ _ _ _ _ _ _ _ S1 g3 _ fun v H2 s2 S2 => ?_
      have ew : w = kV k := keyD_rp (show keyD kd = some k from g7) (S2.see (q := (.p kd, w)) (by simp))
      obtain ⟨G, ot, oe, s⟩ := S2
      obtain ⟨a, xs, ev, ha, rr⟩ := s.dic (t := y) (v := v) (by simp) g5
      have s' : St0 X.kw G0 H0 W G H2 ts vs _ σ ot oe := ⟨s.tmp, s.env, s.nd, s.fr, s.g0, s.gh, s.h0, s.nw, fun q hq => s.vw q (List.mem_cons_of_mem _ (List.mem_cons_of_mem _ hq))⟩
      have same : (valV xs k).isSome = (valD ds k).isSome := by
        cases hv : valD ds k with
        | none => rw [(rr.val k).1 hv]; rfl
        | some d => obtain ⟨n, n1, _⟩ := (rr.val k).2 d hv; rw [n1]; rfl
      refine ⟨a, valV xs k, ev, by rw [ew]; exact (.inl ⟨_, _, ha, rfl, rfl⟩ : DGet _ _ _ _), ?_⟩
      rw [same]
      exact q _ H2 (s1.trans s2) (OkS.scal ⟨G, ot, oe, s'⟩ fun _ => rfl)
    subst htd
    cases b with
    | true => exact main
    | false => exact main
  | _ => cases g7
end
end DL
namespace DL
open PySem PySem.Spec PyProof.Rows L2
section
variable {K : KW} {G0 H0 H : Hp} {W : List (T × V)} {ts : List T} {vs : List V} {env : Env} {σ : St} {t : T} {v : V}
end
def loopT (G : GF) (body : SF) : List T → Env → Option (Fl × Env)
  | [], env => some (.nx, env)
  | t :: ts, env => (G t env).bind fun e1 => (body e1).bind fun r => match r.1 with
    | .nx => loopT G body ts r.2
    | .ct => loopT G body ts r.2
    | .bk => some (.nx, r.2)
    | .rt t => some (.rt t, r.2)
def sForM (f : EF) (G : GF) (body : SF) : SF := fun env => (f env).bind fun r => match r.1 with
  | .lst us => loopT G body us r.2
  | _ => none
def eM0 (g : Str → Option D) (fo : EF) : EF := fun env => (fo env).bind fun x => match x.1 with
  | .p (.str a) => (g a).map fun d => (.p d, x.2)
  | _ => none
section
variable {X : Cx} {o : Expr} {to : TE} {fo : EF} {apos pos : Pos}
end
def rng3D (lo c : Int) (n : Nat) : List D := (List.range n).map fun (k : Nat) => D.int (lo + (k : Nat) * c)
def iR3 (f : AF) : IF := fun env => (f env).bind fun r => match r.1 with
  | [.p (.int i), .p (.int j), .p (.int c)] => if c ≠ 0 ∧ c.natAbs < 1073741824 ∧ Builtin.Range.small i j c = true ∧ Builtin.Range.rangeSize i j c = ((Builtin.Range.rangeSize i j c).toNat : Int) then some (rng3D i c (Builtin.Range.rangeSize i j c).toNat, r.2) else none
  | _ => none
end DL
namespace DL
open PySem PySem.Spec PyProof.Rows L2
variable {env e : Env} {i j n k : Nat} {t u : T} {ts us : List T} {d a b : D} {ds es : List D} {fa fb fc f : EF} {r : AF} {c c2 : CF} {F1 F2 F : SF} {G : GF} {gs : GsF} {z w : Int}
theorem bindS {α β : Type} {x : α} {g : α → Option β} : (some x).bind g = g x := id rfl
theorem mapS {α β : Type} {x : α} {g : α → β} : Option.map g (some x) = some (g x) := id rfl
def kV (env : Env) (i : Nat) : Option (Option T) → Option (T × Env)
  | some (some (.p d)) => some (.p d, env)
  | some (some t) => some (.p t.toD, env.set i (some (.p t.toD)))
  | _ => none
theorem eV_q : eV i env = kV env i env[i]? := id rfl
theorem kV_p : kV env i (some (some (.p d))) = some (.p d, env) := id rfl
theorem kV_l : kV env i (some (some (.lst ts))) = some (.p (T.lst ts).toD, env.set i (some (.p (T.lst ts).toD))) := id rfl
theorem kV_t : kV env i (some (some (.tup ts))) = some (.p (T.tup ts).toD, env.set i (some (.p (T.tup ts).toD))) := id rfl
def kM (env : Env) (i : Nat) : Option (Option T) → Option (T × Env)
  | some (some t) => some (t, env.set i none)
  | _ => none
theorem eM_q : eM i env = kM env i env[i]? := id rfl
theorem kM_s : kM env i (some (some t)) = some (t, env.set i none) := id rfl
def kB (env : Env) : Option (Option T) → Option (T × Env)
  | some (some t) => some (t, env)
  | _ => none
theorem eB_q : eB i env = kB env env[i]? := id rfl
theorem kB_s : kB env (some (some t)) = some (t, env) := id rfl
theorem eC_q : eC d env = some (.p d, env) := id rfl
def kW : T × Env → Option (T × Env)
  | (.p d, e) => some (.p d, e)
  | _ => none
theorem eW_q : eW f env = (f env).bind kW := by
  unfold eW; congr 1; funext r; obtain ⟨t, e⟩ := r; cases t <;> rfl
theorem kW_p : kW (.p d, e) = some (.p d, e) := id rfl
theorem aN_q : aN env = some ([], env) := id rfl
def kCons (t : T) (y : List T × Env) : List T × Env := (t :: y.1, y.2)
def kAC (r : AF) (x : T × Env) : Option (List T × Env) := (r x.2).map (kCons x.1)
theorem aC_q : aC f r env = (f env).bind (kAC r) := id rfl
theorem kAC_q : kAC r (t, e) = (r e).map (kCons t) := id rfl
theorem kCons_q : kCons t (ts, e) = (t :: ts, e) := id rfl
def kMv3 (ts : List T) (e : Env) (i : Nat) : Option (Option T) → Option (List T × Env)
  | some (some t) => some (t :: ts, e.set i none)
  | _ => none
def kMv2 (i : Nat) (y : List T × Env) : Option (List T × Env) := kMv3 y.1 y.2 i y.2[i]?
def kMv (i : Nat) (r : AF) (env : Env) : Option (Option T) → Option (List T × Env)
  | some (some _) => (r env).bind (kMv2 i)
  | _ => none
theorem aMv_q : aMv i r env = kMv i r env env[i]? := id rfl
theorem kMv_s : kMv i r env (some (some t)) = (r env).bind (kMv2 i) := id rfl
theorem kMv2_q : kMv2 i (ts, e) = kMv3 ts e i e[i]? := id rfl
theorem kMv3_s : kMv3 ts e i (some (some t)) = some (t :: ts, e.set i none) := id rfl
def kL (x : List T × Env) : Option (T × Env) := if x.1.length ≤ 1000 then some (.lst x.1, x.2) else none
theorem eL_q : eL r env = (r env).bind kL := id rfl
theorem kL_q : kL (ts, e) = if ts.length ≤ 1000 then some (.lst ts, e) else none := id rfl
def kT (x : List T × Env) : Option (T × Env) := if x.1.length ≤ 1000 then some (mkTup x.1, x.2) else none
theorem eT_q : eT r env = (r env).bind kT := id rfl
theorem kT_q : kT (ts, e) = if ts.length ≤ 1000 then some (mkTup ts, e) else none := id rfl
def kP (e : Env) (d : D) : T × Env := (.p d, e)
theorem kP_q : kP e d = (.p d, e) := id rfl
def kBl (e : Env) (c : Bool) : T × Env := (.p (.bl c), e)
theorem kBl_q {c : Bool} : kBl e c = (.p (.bl c), e) := id rfl
def kT2 (e : Env) (t : T) : T × Env := (t, e)
theorem kT2_q : kT2 e t = (t, e) := id rfl
def kFz (r : T × Env) : T × Env := (.p r.1.toD, r.2)
theorem eFz_q : eFz f env = (f env).map kFz := id rfl
theorem kFz_q : kFz (t, e) = (.p t.toD, e) := id rfl
def kOp2 (g : D → D → Option D) (x : T) : T × Env → Option (T × Env)
  | (.p b, e) => match x with | .p a => (g a b).map (kP e) | _ => none
  | _ => none
def kOp1 (g : D → D → Option D) (fb : EF) (x : T × Env) : Option (T × Env) := (fb x.2).bind (kOp2 g x.1)
theorem eOp_q {g : D → D → Option D} : eOp g fa fb env = (fa env).bind (kOp1 g fb) := by
  unfold eOp; congr 1; funext x; unfold kOp1; congr 1; funext y; obtain ⟨y, e⟩ := y; obtain ⟨x, e'⟩ := x; cases x <;> cases y <;> rfl
theorem kOp1_q {g : D → D → Option D} : kOp1 g fb (t, e) = (fb e).bind (kOp2 g t) := id rfl
theorem kOp2_q {g : D → D → Option D} : kOp2 g (.p a) (.p b, e) = (g a b).map (kP e) := id rfl
def kCm2 (g : D → D → Option Bool) (x : T) (y : T × Env) : Option (T × Env) := (g x.toD y.1.toD).map (kBl y.2)
def kCm1 (g : D → D → Option Bool) (fb : EF) (x : T × Env) : Option (T × Env) := (fb x.2).bind (kCm2 g x.1)
theorem eCmp_q {g : D → D → Option Bool} : eCmp g fa fb env = (fa env).bind (kCm1 g fb) := id rfl
theorem kCm1_q {g : D → D → Option Bool} : kCm1 g fb (t, e) = (fb e).bind (kCm2 g t) := id rfl
theorem kCm2_q {g : D → D → Option Bool} : kCm2 g t (u, e) = (g t.toD u.toD).map (kBl e) := id rfl
def kNeg : T × Env → Option (T × Env)
  | (.p (.int i), e) => some (.p (.int (-i)), e)
  | _ => none
theorem eNeg_q : eNeg f env = (f env).bind kNeg := by
  unfold eNeg; congr 1; funext x; obtain ⟨x, e⟩ := x; cases x with
  | p d => cases d <;> rfl
  | _ => rfl
theorem kNeg_q : kNeg (.p (.int z), e) = some (.p (.int (-z)), e) := id rfl
def kCh3 (g : Int → Int → Bool) (j : Int) : T × Env → Option (T × Env)
  | (.p (.int k), e) => some (.p (.bl (g j k)), e)
  | _ => none
def kCh2 (f g : Int → Int → Bool) (fc : EF) (x : T) (y : T × Env) : Option (T × Env) := match x, y.1 with
  | .p (.int i), .p (.int j) => if f i j then (fc y.2).bind (kCh3 g j) else some (.p (.bl false), y.2)
  | _, _ => none
def kCh1 (f g : Int → Int → Bool) (fb fc : EF) (x : T × Env) : Option (T × Env) := (fb x.2).bind (kCh2 f g fc x.1)
theorem eChain_q {f g : Int → Int → Bool} : eChain f g fa fb fc env = (fa env).bind (kCh1 f g fb fc) := by
  unfold eChain; congr 1; funext x; unfold kCh1; congr 1; funext y
  obtain ⟨x, ex⟩ := x; obtain ⟨y, ey⟩ := y
  cases x with
  | p d => cases d with
    | int i => cases y with
      | p d2 => cases d2 with
        | int j =>
          show (if f i j = true then _ else _) = (if f i j = true then _ else _)
          congr 1; congr 1; funext z; obtain ⟨z, e⟩ := z; cases z with
            | p d => cases d <;> rfl
            | _ => rfl
        | _ => rfl
      | _ => rfl
    | _ => rfl
  | _ => rfl
theorem kCh1_q {f g : Int → Int → Bool} : kCh1 f g fb fc (t, e) = (fb e).bind (kCh2 f g fc t) := id rfl
theorem kCh2_q {f g : Int → Int → Bool} : kCh2 f g fc (.p (.int z)) (.p (.int w), e) = if f z w then (fc e).bind (kCh3 g w) else some (.p (.bl false), e) := id rfl
theorem kCh3_q {g : Int → Int → Bool} : kCh3 g z (.p (.int w), e) = some (.p (.bl (g z w)), e) := id rfl
def kcT : T × Env → Option (Bool × Env)
  | (.p (.bl b), e) => some (b, e)
  | _ => none
theorem cT_q : cT f env = (f env).bind kcT := by
  unfold cT; congr 1; funext x; obtain ⟨x, e⟩ := x; cases x with
  | p d => cases d <;> rfl
  | _ => rfl
theorem kcT_q {b : Bool} : kcT (.p (.bl b), e) = some (b, e) := id rfl
def kNot (r : Bool × Env) : Bool × Env := (!r.1, r.2)
theorem cNot_q : cNot c env = (c env).map kNot := id rfl
theorem kNot_q {b : Bool} : kNot (b, e) = (!b, e) := id rfl
def kcAnd (d : CF) (r : Bool × Env) : Option (Bool × Env) := if r.1 then d r.2 else some (false, r.2)
theorem cAnd_q : cAnd c c2 env = (c env).bind (kcAnd c2) := id rfl
theorem kcAnd_t : kcAnd c (true, e) = c e := id rfl
theorem kcAnd_f : kcAnd c (false, e) = some (false, e) := id rfl
def kcOr (d : CF) (r : Bool × Env) : Option (Bool × Env) := if r.1 then some (true, r.2) else d r.2
theorem cOr_q : cOr c c2 env = (c env).bind (kcOr c2) := id rfl
theorem kcOr_t : kcOr c (true, e) = some (true, e) := id rfl
theorem kcOr_f : kcOr c (false, e) = c e := id rfl
def keIf (fa fb : EF) (r : Bool × Env) : Option (T × Env) := if r.1 then fa r.2 else fb r.2
theorem eIf_q : eIf c fa fb env = (c env).bind (keIf fa fb) := id rfl
theorem keIf_t : keIf fa fb (true, e) = fa e := id rfl
theorem keIf_f : keIf fa fb (false, e) = fb e := id rfl
def keAnd (fb : EF) (r : Bool × Env) : Option (T × Env) := if r.1 then fb r.2 else some (.p (.bl false), r.2)
theorem eAnd_q : eAnd fa fb env = (cT fa env).bind (keAnd fb) := id rfl
theorem keAnd_t : keAnd fb (true, e) = fb e := id rfl
theorem keAnd_f : keAnd fb (false, e) = some (.p (.bl false), e) := id rfl
def keOr (fb : EF) (r : Bool × Env) : Option (T × Env) := if r.1 then some (.p (.bl true), r.2) else fb r.2
theorem eOr_q : eOr fa fb env = (cT fa env).bind (keOr fb) := id rfl
theorem keOr_t : keOr fb (true, e) = some (.p (.bl true), e) := id rfl
theorem keOr_f : keOr fb (false, e) = fb e := id rfl
def keNot (r : Bool × Env) : T × Env := (.p (.bl (!r.1)), r.2)
theorem eNot_q : eNot fa env = (cT fa env).map keNot := id rfl
theorem keNot_q {b : Bool} : keNot (b, e) = (.p (.bl (!b)), e) := id rfl
def kcIf (F1 F2 : SF) (r : Bool × Env) : Option (Fl × Env) := if r.1 then F1 r.2 else F2 r.2
theorem sIf_q : sIf c F1 F2 env = (c env).bind (kcIf F1 F2) := id rfl
theorem kcIf_t : kcIf F1 F2 (true, e) = F1 e := id rfl
theorem kcIf_f : kcIf F1 F2 (false, e) = F2 e := id rfl
def kB1 (g : T → Option D) (x : T × Env) : Option (T × Env) := (g x.1).map (kP x.2)
theorem eB1_q {g : T → Option D} : eB1 g f env = (f env).bind (kB1 g) := id rfl
theorem kB1_q {g : T → Option D} : kB1 g (t, e) = (g t).map (kP e) := id rfl
def kI2 (g : Int → Int → Int) (r : List T × Env) : Option (T × Env) := match r.1 with
  | [.p (.int i), .p (.int j)] => some (.p (.int (g i j)), r.2)
  | _ => none
theorem eI2_q {g : Int → Int → Int} : eI2 g r env = (r env).bind (kI2 g) := id rfl
theorem kI2_q {g : Int → Int → Int} : kI2 g ([.p (.int z), .p (.int w)], e) = some (.p (.int (g z w)), e) := id rfl
def kIsi (ty : String) (x : T × Env) : Option (T × Env) := if tyOk x.1.toD = true then (kitB (tyD x.1.toD) ty).map (kBl x.2) else none
theorem eIsi_q {ty : String} : eIsi ty f env = (f env).bind (kIsi ty) := id rfl
theorem kIsi_q {ty : String} : kIsi ty (t, e) = if tyOk t.toD = true then (kitB (tyD t.toD) ty).map (kBl e) else none := id rfl
def kLst (e : Env) (ds : List D) : T × Env := (.lst (ds.map T.p), e)
theorem kLst_q : kLst e ds = (.lst (ds.map T.p), e) := id rfl
def kList (x : T × Env) : Option (T × Env) := (itemsT x.1).map (kLst x.2)
theorem eList_q : eList f env = (f env).bind kList := id rfl
theorem kList_q : kList (t, e) = (itemsT t).map (kLst e) := id rfl
def kTpl (e : Env) (ds : List D) : T × Env := (.p (.tup ds), e)
theorem kTpl_q : kTpl e ds = (.p (.tup ds), e) := id rfl
def kTuple (x : T × Env) : Option (T × Env) := (itemsT x.1).map (kTpl x.2)
theorem eTuple_q : eTuple f env = (f env).bind kTuple := id rfl
theorem kTuple_q : kTuple (t, e) = (itemsT t).map (kTpl e) := id rfl
def kCall2 (φ : List D → Option T) (e : Env) (ds : List D) : Option (T × Env) := (φ ds).map (kT2 e)
def kCall (φ : List D → Option T) (r : List T × Env) : Option (T × Env) := (allP r.1).bind (kCall2 φ r.2)
theorem eCall_q {φ : List D → Option T} : eCall φ r env = (r env).bind (kCall φ) := id rfl
theorem kCall_q {φ : List D → Option T} : kCall φ (ts, e) = (allP ts).bind (kCall2 φ e) := id rfl
theorem kCall2_q {φ : List D → Option T} : kCall2 φ e ds = (φ ds).map (kT2 e) := id rfl
def kCl (e : Env) (t : T) : Option (T × Env) := if cleanT t then some (t, e) else none
def kCallB (φ : List D → Option T) (r : List T × Env) : Option (T × Env) := (φ (T.toDs r.1)).bind (kCl r.2)
theorem eCallB_q {φ : List D → Option T} : eCallB φ r env = (r env).bind (kCallB φ) := id rfl
theorem kCallB_q {φ : List D → Option T} : kCallB φ (ts, e) = (φ (T.toDs ts)).bind (kCl e) := id rfl
theorem kCl_q : kCl e t = if cleanT t then some (t, e) else none := id rfl
theorem allP_n : allP [] = some [] := id rfl
theorem allP_c : allP (.p d :: ts) = (allP ts).map (List.cons d) := id rfl
def kIx2 (x : T) : T × Env → Option (T × Env)
  | (.p (.int i), e) => (ixT x i).map (kT2 e)
  | _ => none
def kIx1 (fi : EF) (x : T × Env) : Option (T × Env) := (fi x.2).bind (kIx2 x.1)
theorem eIx_q : eIx fa fb env = (fa env).bind (kIx1 fb) := by
  unfold eIx; congr 1; funext x; unfold kIx1; congr 1; funext y; obtain ⟨y, e⟩ := y; cases y with
  | p d => cases d <;> rfl
  | _ => rfl
theorem kIx1_q : kIx1 fb (t, e) = (fb e).bind (kIx2 t) := id rfl
theorem kIx2_q : kIx2 t (.p (.int z), e) = (ixT t z).map (kT2 e) := id rfl
theorem oN_q : oN env = some (none, env) := id rfl
def koS : T × Env → Option (Option Int × Env)
  | (.p (.int i), e) => some (some i, e)
  | _ => none
theorem oS_q : oS f env = (f env).bind koS := by
  unfold oS; congr 1; funext x; obtain ⟨x, e⟩ := x; cases x with
  | p d => cases d <;> rfl
  | _ => rfl
theorem koS_q : koS (.p (.int z), e) = some (some z, e) := id rfl
def kSl3 (x : T) (l : Option Int) (u : Option Int × Env) : Option (T × Env) := (cutT x l u.1).map (kT2 u.2)
def kSl2 (x : T) (hi : OF) (l : Option Int × Env) : Option (T × Env) := (hi l.2).bind (kSl3 x l.1)
def kSl1 (lo hi : OF) (x : T × Env) : Option (T × Env) := (lo x.2).bind (kSl2 x.1 hi)
theorem eSl_q {lo hi : OF} : eSl fa lo hi env = (fa env).bind (kSl1 lo hi) := id rfl
theorem kSl1_q {lo hi : OF} : kSl1 lo hi (t, e) = (lo e).bind (kSl2 t hi) := id rfl
theorem kSl2_q {hi : OF} {l : Option Int} : kSl2 t hi (l, e) = (hi e).bind (kSl3 t l) := id rfl
theorem kSl3_q {l u : Option Int} : kSl3 t l (u, e) = (cutT t l u).map (kT2 e) := id rfl
theorem cutT_p {l u : Option Int} : cutT (.p (.lst ds)) l u = some (.lst ((cutD ds l u).map T.p)) := id rfl
theorem cutT_l {l u : Option Int} : cutT (.lst (ds.map T.p)) l u = some (.lst ((cutD ds l u).map T.p)) := by
  show (allP (ds.map T.p)).map _ = _
  have : allP (ds.map T.p) = some ds := by
    induction ds with
    | nil => rfl
    | cons d ds ih => simp [allP, ih]
  rw [this]; rfl
theorem cutT_s {l u : Option Int} {s : Str} (h : s.length ≤ 16777216) : cutT (.p (.str s)) l u = some (.p (.str (cutS s l u))) := if_pos h
theorem sNx_q : sNx env = some (.nx, env) := id rfl
theorem sBk_q : sBk env = some (.bk, env) := id rfl
theorem sCt_q : sCt env = some (.ct, env) := id rfl
theorem sRetN_q : sRetN env = some (.rt (.p .non), env) := id rfl
def kSeq (F2 : SF) (r : Fl × Env) : Option (Fl × Env) := match r.1 with
  | .nx => F2 r.2
  | .rt t => some (.rt t, r.2)
  | .bk => some (.bk, r.2)
  | .ct => some (.ct, r.2)
theorem sSeq_q : sSeq F1 F2 env = (F1 env).bind (kSeq F2) := id rfl
theorem kSeq_n : kSeq F (.nx, e) = F e := id rfl
theorem kSeq_r : kSeq F (.rt t, e) = some (.rt t, e) := id rfl
theorem kSeq_b : kSeq F (.bk, e) = some (.bk, e) := id rfl
theorem kSeq_c : kSeq F (.ct, e) = some (.ct, e) := id rfl
def kRet (r : T × Env) : Fl × Env := (.rt r.1, r.2)
theorem sRet_q : sRet f env = (f env).map kRet := id rfl
theorem kRet_q : kRet (t, e) = (.rt t, e) := id rfl
def kSet (i : Nat) (r : T × Env) : Option (Fl × Env) := if i < r.2.length then some (.nx, r.2.set i (some r.1)) else none
theorem sSet_q : sSet i f env = (f env).bind (kSet i) := id rfl
theorem kSet_q : kSet i (t, e) = if i < e.length then some (.nx, e.set i (some t)) else none := id rfl
def kDrop (r : T × Env) : Fl × Env := (.nx, r.2)
theorem sDrop_q : sDrop f env = (f env).map kDrop := id rfl
theorem kDrop_q : kDrop (t, e) = (.nx, e) := id rfl
theorem gNm_q : gNm i t env = if i < env.length then some (env.set i (some t)) else none := id rfl
theorem gEnd_q : gEnd [] env = some env := id rfl
theorem gAnd_q : gAnd G gs (t :: ts) env = (G t env).bind (gs ts) := id rfl
def kTp (n : Nat) (g : GsF) (env : Env) (us : List T) : Option Env := if us.length = n then g us env else none
theorem gTp_q : gTp n gs t env = (partsT t).bind (kTp n gs env) := id rfl
theorem kTp_q : kTp n gs env ts = if ts.length = n then gs ts env else none := id rfl
theorem partsT_p : partsT (.p (.tup ds)) = some (ds.map T.p) := id rfl
theorem partsT_t : partsT (.tup ts) = some ts := id rfl
def kNx (e : Env) : Fl × Env := (.nx, e)
theorem kNx_q : kNx e = (.nx, e) := id rfl
def kAsg (G : GF) (r : T × Env) : Option (Fl × Env) := (G r.1 r.2).map kNx
theorem sAsg_q : sAsg f G env = (f env).bind (kAsg G) := id rfl
theorem kAsg_q : kAsg G (t, e) = (G t e).map kNx := id rfl
def kFor (G : GF) (body : SF) (r : List D × Env) : Option (Fl × Env) := loopD G body r.1 r.2
theorem sFor_q {fi : IF} : sFor fi G F env = (fi env).bind (kFor G F) := id rfl
theorem kFor_q : kFor G F (ds, e) = loopD G F ds e := id rfl
def kLp2 (G : GF) (body : SF) (ds : List D) (r : Fl × Env) : Option (Fl × Env) := match r.1 with
  | .nx => loopD G body ds r.2
  | .ct => loopD G body ds r.2
  | .bk => some (.nx, r.2)
  | .rt t => some (.rt t, r.2)
def kLp1 (G : GF) (body : SF) (ds : List D) (e : Env) : Option (Fl × Env) := (body e).bind (kLp2 G body ds)
theorem loop_n : loopD G F [] env = some (.nx, env) := id rfl
theorem loop_c : loopD G F (d :: ds) env = (G (.p d) env).bind (kLp1 G F ds) := id rfl
theorem kLp1_q : kLp1 G F ds e = (F e).bind (kLp2 G F ds) := id rfl
theorem kLp2_n : kLp2 G F ds (.nx, e) = loopD G F ds e := id rfl
theorem kLp2_c : kLp2 G F ds (.ct, e) = loopD G F ds e := id rfl
theorem kLp2_b : kLp2 G F ds (.bk, e) = some (.nx, e) := id rfl
theorem kLp2_r : kLp2 G F ds (.rt t, e) = some (.rt t, e) := id rfl
def kiL (r : T × Env) : Option (List D × Env) := match r.1 with | .p (.lst ds) => some (ds, r.2) | _ => none
theorem iL_q : iL f env = (f env).bind kiL := id rfl
theorem kiL_q : kiL (.p (.lst ds), e) = some (ds, e) := id rfl
def kiTp (r : T × Env) : Option (List D × Env) := match r.1 with | .p (.tup ds) => some (ds, r.2) | _ => none
theorem iTp_q : iTp f env = (f env).bind kiTp := id rfl
theorem kiTp_q : kiTp (.p (.tup ds), e) = some (ds, e) := id rfl
def kiSg (r : T × Env) : Option (List D × Env) := match r.1 with
  | .p (.str z) => some (signsD z, r.2)
  | _ => none
theorem iSg_q : iSg f env = (f env).bind kiSg := id rfl
theorem kiSg_q {s : Str} : kiSg (.p (.str s), e) = some (signsD s, e) := id rfl
def kR1 (r : List T × Env) : Option (List D × Env) := match r.1 with
  | [.p (.int j)] => if j < 4611686018427387904 ∧ -4611686018427387904 ≤ j then some (rngD 0 j.toNat, r.2) else none
  | _ => none
theorem iR1_q : iR1 r env = (r env).bind kR1 := id rfl
theorem kR1_q (h1 : -4611686018427387904 ≤ z) (h2 : z < 4611686018427387904) : kR1 ([.p (.int z)], e) = some (rngD 0 z.toNat, e) := if_pos ⟨h2, h1⟩
def kR2 (r : List T × Env) : Option (List D × Env) := match r.1 with
  | [.p (.int i), .p (.int j)] => if (i < 4611686018427387904 ∧ -4611686018427387904 ≤ i) ∧ (j < 4611686018427387904 ∧ -4611686018427387904 ≤ j) then some (rngD i (j - i).toNat, r.2) else none
  | _ => none
theorem iR2_q : iR2 r env = (r env).bind kR2 := id rfl
theorem kR2_q (h1 : -4611686018427387904 ≤ z) (h2 : z < 4611686018427387904) (h3 : -4611686018427387904 ≤ w) (h4 : w < 4611686018427387904) : kR2 ([.p (.int z), .p (.int w)], e) = some (rngD z (w - z).toNat, e) := if_pos ⟨⟨h2, h1⟩, h4, h3⟩
def kEn (r : List T × Env) : Option (List D × Env) := match r.1 with
  | [.p (.lst ds)] => some (enumD 0 ds, r.2)
  | _ => none
theorem iEn_q : iEn r env = (r env).bind kEn := id rfl
theorem kEn_q : kEn ([.p (.lst ds)], e) = some (enumD 0 ds, e) := id rfl
def kZp (r : List T × Env) : Option (List D × Env) := match r.1 with
  | [.p (.lst ds), .p (.lst es)] => some (zipD ds es, r.2)
  | [.p (.tup ds), .p (.tup es)] => some (zipD ds es, r.2)
  | _ => none
theorem iZp_q : iZp r env = (r env).bind kZp := id rfl
theorem kZp_q : kZp ([.p (.lst ds), .p (.lst es)], e) = some (zipD ds es, e) := id rfl
theorem kZp_t : kZp ([.p (.tup ds), .p (.tup es)], e) = some (zipD ds es, e) := id rfl
def kForV2 (us : List T) (i : Nat) (r : Fl × Env) : Fl × Env := (r.1, match r.1 with
  | .rt _ => r.2
  | _ => r.2.set i (some (.lst us)))
def kForV1 (i : Nat) (G : GF) (body : SF) (env : Env) (us : List T) (ds : List D) : Option (Fl × Env) := (loopD G body ds (env.set i none)).map (kForV2 us i)
def kForV (i : Nat) (G : GF) (body : SF) (env : Env) (us : List T) : Option (Fl × Env) := (allP us).bind (kForV1 i G body env us)
theorem sForV_q : sForV i G F env = (atL env i).bind (kForV i G F env) := id rfl
theorem kForV_q : kForV i G F env us = (allP us).bind (kForV1 i G F env us) := id rfl
theorem kForV1_q : kForV1 i G F env us ds = (loopD G F ds (env.set i none)).map (kForV2 us i) := id rfl
theorem kForV2_n : kForV2 us i (.nx, e) = (.nx, e.set i (some (.lst us))) := id rfl
theorem kForV2_r : kForV2 us i (.rt t, e) = (.rt t, e) := id rfl
def kAtL : Option (Option T) → Option (List T)
  | some (some (.lst us)) => some us
  | _ => none
theorem atL_q : atL env i = kAtL env[i]? := id rfl
theorem kAtL_q : kAtL (some (some (.lst us))) = some us := id rfl
def kApp2 (i : Nat) (t : T) (e : Env) (us : List T) : Option (Fl × Env) := if us.length < 16000000 then some (.nx, e.set i (some (.lst (us ++ [t])))) else none
def kApp1 (i : Nat) (r : T × Env) : Option (Fl × Env) := (atL r.2 i).bind (kApp2 i r.1 r.2)
def kApp (i : Nat) (f : EF) (env : Env) (_ : List T) : Option (Fl × Env) := (f env).bind (kApp1 i)
theorem sApp_q : sApp i f env = (atL env i).bind (kApp i f env) := by
  unfold sApp atL
  split
  · rename_i h
    show _ = (f env).bind (kApp1 i)
    congr 1; funext r; unfold kApp1 atL
    split <;> rfl
  · rfl
theorem kApp_q : kApp i f env us = (f env).bind (kApp1 i) := id rfl
theorem kApp1_q : kApp1 i (t, e) = (atL e i).bind (kApp2 i t e) := id rfl
theorem kApp2_q : kApp2 i t e us = if us.length < 16000000 then some (.nx, e.set i (some (.lst (us ++ [t])))) else none := id rfl
def kPutEnd (i : Nat) (t : T) (e : Env) (us : List T) (k : Nat) : Fl × Env := (.nx, e.set i (some (.lst (us.set k t))))
def kPut4 (i : Nat) (t : T) (e : Env) (j : Int) (us : List T) : Option (Fl × Env) := (ixN us.length j).map (kPutEnd i t e us)
def kPut3 (i : Nat) (t : T) (e : Env) (j : Int) : Option (Fl × Env) := (atL e i).bind (kPut4 i t e j)
def kPut2 (i : Nat) (t : T) (s : T × Env) : Option (Fl × Env) := (asI s.1).bind (kPut3 i t s.2)
def kPut1 (i : Nat) (fj : EF) (r : T × Env) (_ : List T) : Option (Fl × Env) := (fj r.2).bind (kPut2 i r.1)
def kPut (i : Nat) (fj : EF) (r : T × Env) : Option (Fl × Env) := (atL r.2 i).bind (kPut1 i fj r)
theorem sPut_q : sPut i fa f env = (f env).bind (kPut i fa) := id rfl
theorem kPut_q : kPut i fa (t, e) = (atL e i).bind (kPut1 i fa (t, e)) := id rfl
theorem kPut1_q : kPut1 i fa (t, e) us = (fa e).bind (kPut2 i t) := id rfl
theorem kPut2_q : kPut2 i t (u, e) = (asI u).bind (kPut3 i t e) := id rfl
theorem kPut3_q : kPut3 i t e z = (atL e i).bind (kPut4 i t e z) := id rfl
theorem kPut4_q : kPut4 i t e z us = (ixN us.length z).map (kPutEnd i t e us) := id rfl
theorem kPutEnd_q : kPutEnd i t e us k = (.nx, e.set i (some (.lst (us.set k t)))) := id rfl
theorem asI_q : asI (.p (.int z)) = some z := id rfl
def kAx8 (i : Nat) (h : Int → Int → Int) (x y : Int) (e : Env) (us : List T) (k : Nat) : Fl × Env := (.nx, e.set i (some (.lst (us.set k (.p (.int (h x y)))))))
def kAx7 (i : Nat) (h : Int → Int → Int) (j x y : Int) (e : Env) (us : List T) : Option (Fl × Env) := (ixN us.length j).map (kAx8 i h x y e us)
def kAx6 (i : Nat) (h : Int → Int → Int) (j x : Int) (e : Env) (y : Int) : Option (Fl × Env) := (atL e i).bind (kAx7 i h j x y e)
def kAx5 (i : Nat) (h : Int → Int → Int) (j x : Int) (r : T × Env) : Option (Fl × Env) := (asI r.1).bind (kAx6 i h j x r.2)
def kAx4 (i : Nat) (h : Int → Int → Int) (f : EF) (j : Int) (e : Env) (x : Int) : Option (Fl × Env) := (f e).bind (kAx5 i h j x)
def kAx3 (i : Nat) (h : Int → Int → Int) (f : EF) (j : Int) (e : Env) (t : T) : Option (Fl × Env) := (asI t).bind (kAx4 i h f j e)
def kAx2 (i : Nat) (h : Int → Int → Int) (f : EF) (j : Int) (e : Env) (us : List T) : Option (Fl × Env) := (atI us j).bind (kAx3 i h f j e)
def kAx1 (i : Nat) (h : Int → Int → Int) (f : EF) (e : Env) (j : Int) : Option (Fl × Env) := if 0 ≤ j then (atL e i).bind (kAx2 i h f j e) else none
def kAx0 (i : Nat) (h : Int → Int → Int) (f : EF) (s : T × Env) : Option (Fl × Env) := (asI s.1).bind (kAx1 i h f s.2)
def kAx (i : Nat) (h : Int → Int → Int) (fj f : EF) (env : Env) (_ : List T) : Option (Fl × Env) := (fj env).bind (kAx0 i h f)
variable {h : Int → Int → Int} {x y : Int}
theorem sAugIx_q : sAugIx i h fa f env = (atL env i).bind (kAx i h fa f env) := id rfl
theorem kAx_q : kAx i h fa f env us = (fa env).bind (kAx0 i h f) := id rfl
theorem kAx0_q : kAx0 i h f (t, e) = (asI t).bind (kAx1 i h f e) := id rfl
theorem kAx1_q (hz : 0 ≤ z) : kAx1 i h f e z = (atL e i).bind (kAx2 i h f z e) := if_pos hz
theorem kAx2_q : kAx2 i h f z e us = (atI us z).bind (kAx3 i h f z e) := id rfl
theorem kAx3_q : kAx3 i h f z e t = (asI t).bind (kAx4 i h f z e) := id rfl
theorem kAx4_q : kAx4 i h f z e x = (f e).bind (kAx5 i h z x) := id rfl
theorem kAx5_q : kAx5 i h z x (t, e) = (asI t).bind (kAx6 i h z x e) := id rfl
theorem kAx6_q : kAx6 i h z x e y = (atL e i).bind (kAx7 i h z x y e) := id rfl
theorem kAx7_q : kAx7 i h z x y e us = (ixN us.length z).map (kAx8 i h x y e us) := id rfl
theorem kAx8_q : kAx8 i h x y e us k = (.nx, e.set i (some (.lst (us.set k (.p (.int (h x y))))))) := id rfl
def kAug3 (i : Nat) (e : Env) (d : D) : Option (Fl × Env) := if i < e.length then some (.nx, e.set i (some (.p d))) else none
def kAug2 (i : Nat) (g : D → D → Option D) (a : D) : T × Env → Option (Fl × Env)
  | (.p b, e) => (g a b).bind (kAug3 i e)
  | _ => none
def kAug (i : Nat) (g : D → D → Option D) (f : EF) (env : Env) : Option (Option T) → Option (Fl × Env)
  | some (some (.p a)) => (f env).bind (kAug2 i g a)
  | _ => none
theorem sAug_q {g : D → D → Option D} : sAug i g f env = kAug i g f env env[i]? := by
  unfold sAug
  generalize env[i]? = o
  cases o with
  | none => rfl
  | some o => cases o with
    | none => rfl
    | some t => cases t with
      | p a =>
        show (f env).bind _ = (f env).bind _
        congr 1; funext r; obtain ⟨r, e⟩ := r; cases r <;> rfl
      | _ => rfl
theorem kAug_q {g : D → D → Option D} : kAug i g f env (some (some (.p a))) = (f env).bind (kAug2 i g a) := id rfl
theorem kAug2_q {g : D → D → Option D} : kAug2 i g a (.p b, e) = (g a b).bind (kAug3 i e) := id rfl
theorem kAug3_q : kAug3 i e d = if i < e.length then some (.nx, e.set i (some (.p d))) else none := id rfl
def kCp4 (t : T) (z : List T × Env) : List T × Env := (t :: z.1, z.2)
def kCp3 (own : List Nat) (G : GF) (test : CF) (elt : EF) (ds : List D) (s : T × Env) : Option (List T × Env) := (compD own G test elt ds (wipeE s.2 own)).map (kCp4 s.1)
def kCp2 (own : List Nat) (G : GF) (test : CF) (elt : EF) (ds : List D) (r : Bool × Env) : Option (List T × Env) := if r.1 then (elt r.2).bind (kCp3 own G test elt ds) else compD own G test elt ds (wipeE r.2 own)
def kCp1 (own : List Nat) (G : GF) (test : CF) (elt : EF) (ds : List D) (e1 : Env) : Option (List T × Env) := (test e1).bind (kCp2 own G test elt ds)
variable {own : List Nat}
theorem comp_n : compD own G c f [] env = some ([], env) := id rfl
theorem comp_c : compD own G c f (d :: ds) env = (G (.p d) env).bind (kCp1 own G c f ds) := id rfl
theorem kCp1_q : kCp1 own G c f ds e = (c e).bind (kCp2 own G c f ds) := id rfl
theorem kCp2_t : kCp2 own G c f ds (true, e) = (f e).bind (kCp3 own G c f ds) := id rfl
theorem kCp2_f : kCp2 own G c f ds (false, e) = compD own G c f ds (wipeE e own) := id rfl
theorem kCp3_q : kCp3 own G c f ds (t, e) = (compD own G c f ds (wipeE e own)).map (kCp4 t) := id rfl
theorem kCp4_q : kCp4 t (ts, e) = (t :: ts, e) := id rfl
def kLs (z : List T × Env) : T × Env := (.lst z.1, z.2)
def kComp (own : List Nat) (G : GF) (test : CF) (elt : EF) (r : List D × Env) : Option (T × Env) := if r.1.length ≤ 1000000 then (compD own G test elt r.1 (wipeE r.2 own)).map kLs else none
theorem eComp_q {fi : IF} : eComp own fi G c f env = (fi env).bind (kComp own G c f) := id rfl
theorem kComp_q : kComp own G c f (ds, e) = if ds.length ≤ 1000000 then (compD own G c f ds (wipeE e own)).map kLs else none := id rfl
theorem kLs_q : kLs (ts, e) = (.lst ts, e) := id rfl
theorem cYes_q : cYes env = some (true, env) := id rfl
theorem wipe_n : wipeE env [] = env := id rfl
theorem wipe_c {v : Nat} {vs : List Nat} : wipeE env (v :: vs) = (wipeE env vs).set v none := id rfl
def kM12 (g : Str → Str → Option D) (x : T) : T × Env → Option (T × Env)
  | (.p (.str b), e) => match x with | .p (.str a) => (g a b).map (kP e) | _ => none
  | _ => none
def kM11 (g : Str → Str → Option D) (fe : EF) (x : T × Env) : Option (T × Env) := (fe x.2).bind (kM12 g x.1)
theorem eM1_q {g : Str → Str → Option D} : eM1 g fa fb env = (fa env).bind (kM11 g fb) := by
  unfold eM1; congr 1; funext x; unfold kM11; congr 1; funext y; obtain ⟨y, e⟩ := y; obtain ⟨x, e'⟩ := x
  cases y with
  | p d2 => cases d2 with
    | str s2 => cases x with
      | p d => cases d <;> rfl
      | _ => rfl
    | _ => cases x with
      | p d => cases d <;> rfl
      | _ => rfl
  | _ => cases x with
    | p d => cases d <;> rfl
    | _ => rfl
theorem kM11_q {g : Str → Str → Option D} : kM11 g fb (t, e) = (fb e).bind (kM12 g t) := id rfl
theorem kM12_q {g : Str → Str → Option D} {s s' : Str} : kM12 g (.p (.str s)) (.p (.str s'), e) = (g s s').map (kP e) := id rfl
def kSp2 (x : T) (y : T × Env) : Option (T × Env) := match x, y.1 with
  | .p (.str a), .p (.str b) => if (b.length == 0) = false ∧ a.length + 2 ≤ 16777216 then some (.lst (((Txt.split a b).map D.str).map T.p), y.2) else none
  | _, _ => none
def kSp1 (fe : EF) (x : T × Env) : Option (T × Env) := (fe x.2).bind (kSp2 x.1)
theorem eSplit_q : eSplit fa fb env = (fa env).bind (kSp1 fb) := id rfl
theorem kSp1_q : kSp1 fb (t, e) = (fb e).bind (kSp2 t) := id rfl
theorem kSp2_q {s s' : Str} : kSp2 (.p (.str s)) (.p (.str s'), e) = if (s'.length == 0) = false ∧ s.length + 2 ≤ 16777216 then some (.lst (((Txt.split s s').map D.str).map T.p), e) else none := id rfl
def kJn4 (a : Str) (e : Env) (ys : List Str) : Option (T × Env) := if (ys.map (·.length)).sum + ys.length * a.length ≤ 16777216 then some (.p (.str (Txt.join a ys)), e) else none
def kJn3 (a : Str) (e : Env) (ds : List D) : Option (T × Env) := (strsD ds).bind (kJn4 a e)
def kJn2 (x : T) (y : T × Env) : Option (T × Env) := match x with
  | .p (.str a) => (itemsT y.1).bind (kJn3 a y.2)
  | _ => none
def kJn1 (fe : EF) (x : T × Env) : Option (T × Env) := (fe x.2).bind (kJn2 x.1)
theorem eJoin_q : eJoin fa fb env = (fa env).bind (kJn1 fb) := id rfl
theorem kJn1_q : kJn1 fb (t, e) = (fb e).bind (kJn2 t) := id rfl
theorem kJn2_q {s : Str} : kJn2 (.p (.str s)) (t, e) = (itemsT t).bind (kJn3 s e) := id rfl
theorem kJn3_q {s : Str} : kJn3 s e ds = (strsD ds).bind (kJn4 s e) := id rfl
theorem kJn4_q {s : Str} {ys : List Str} : kJn4 s e ys = if (ys.map (·.length)).sum + ys.length * s.length ≤ 16777216 then some (.p (.str (Txt.join s ys)), e) else none := id rfl
def kCt3 (x y : T) (e : Env) (ds es : List D) : Option (T × Env) := if isLT x = true ∧ isLT y = true ∧ ds.length + es.length ≤ 16777216 then some (.lst ((ds ++ es).map T.p), e) else none
def kCt2 (x y : T) (e : Env) (ds : List D) : Option (T × Env) := (itemsT y).bind (kCt3 x y e ds)
def kCt1 (x : T) (y : T × Env) : Option (T × Env) := (itemsT x).bind (kCt2 x y.1 y.2)
def kCt0 (fb : EF) (x : T × Env) : Option (T × Env) := (fb x.2).bind (kCt1 x.1)
theorem eCat_q : eCat fa fb env = (fa env).bind (kCt0 fb) := id rfl
theorem kCt0_q : kCt0 fb (t, e) = (fb e).bind (kCt1 t) := id rfl
theorem kCt1_q : kCt1 t (u, e) = (itemsT t).bind (kCt2 t u e) := id rfl
theorem kCt2_q : kCt2 t u e ds = (itemsT u).bind (kCt3 t u e ds) := id rfl
theorem kCt3_pl {as : List D} (h3 : ds.length + es.length ≤ 16777216) : kCt3 (.p (.lst as)) (.lst us) e ds es = some (.lst ((ds ++ es).map T.p), e) := if_pos ⟨id rfl, id rfl, h3⟩
theorem kCt3_ll {ws : List T} (h3 : ds.length + es.length ≤ 16777216) : kCt3 (.lst ws) (.lst us) e ds es = some (.lst ((ds ++ es).map T.p), e) := if_pos ⟨id rfl, id rfl, h3⟩
theorem kCt3_lp {as : List D} (h3 : ds.length + es.length ≤ 16777216) : kCt3 (.lst us) (.p (.lst as)) e ds es = some (.lst ((ds ++ es).map T.p), e) := if_pos ⟨id rfl, id rfl, h3⟩
theorem kCt3_pp {as bs : List D} (h3 : ds.length + es.length ≤ 16777216) : kCt3 (.p (.lst as)) (.p (.lst bs)) e ds es = some (.lst ((ds ++ es).map T.p), e) := if_pos ⟨id rfl, id rfl, h3⟩
theorem itemsT_p : itemsT (.p (.lst ds)) = some ds := id rfl
theorem itemsT_t : itemsT (.p (.tup ds)) = some ds := id rfl
theorem itemsT_ll : itemsT (.lst ts) = allP ts := id rfl
theorem isLT_p : isLT (.p (.lst ds)) = true := id rfl
theorem isLT_l : isLT (.lst ts) = true := id rfl
variable {kd : List (Key × D)} {ky : Key} {st : Str}
theorem eDn_q : eDn env = some (.dic (pairsT []), env) := id rfl
def kDx4 (ds : List (Key × D)) (e : Env) (k : Key) : Option (T × Env) := (valD ds k).map (kP e)
def kDx3 (u : T) (e : Env) (ds : List (Key × D)) : Option (T × Env) := (keyT u).bind (kDx4 ds e)
def kDx2 (t : T) (s : T × Env) : Option (T × Env) := (dicT t).bind (kDx3 s.1 s.2)
def kDx1 (fi : EF) (r : T × Env) : Option (T × Env) := (fi r.2).bind (kDx2 r.1)
theorem eDix_q : eDix fa fb env = (fa env).bind (kDx1 fb) := id rfl
theorem kDx1_q : kDx1 fb (t, e) = (fb e).bind (kDx2 t) := id rfl
theorem kDx2_q : kDx2 t (u, e) = (dicT t).bind (kDx3 u e) := id rfl
theorem kDx3_q : kDx3 u e kd = (keyT u).bind (kDx4 kd e) := id rfl
theorem kDx4_q : kDx4 kd e ky = (valD kd ky).map (kP e) := id rfl
def kDg5 (u : T) (e : Env) (ds : List (Key × D)) (k : Key) : Option (T × Env) := match u with
  | .p z => some (.p ((valD ds k).getD z), e)
  | _ => none
def kDg4 (s u : T) (e : Env) (ds : List (Key × D)) : Option (T × Env) := (keyT s).bind (kDg5 u e ds)
def kDg3 (t s : T) (u : T × Env) : Option (T × Env) := (dicT t).bind (kDg4 s u.1 u.2)
def kDg2 (t : T) (fx : EF) (s : T × Env) : Option (T × Env) := (fx s.2).bind (kDg3 t s.1)
def kDg1 (fi fx : EF) (r : T × Env) : Option (T × Env) := (fi r.2).bind (kDg2 r.1 fx)
theorem eDget_q : eDget fa fb fc env = (fa env).bind (kDg1 fb fc) := id rfl
theorem kDg1_q : kDg1 fb fc (t, e) = (fb e).bind (kDg2 t fc) := id rfl
theorem kDg2_q : kDg2 t fc (u, e) = (fc e).bind (kDg3 t u) := id rfl
theorem kDg3_q {x : T} : kDg3 t u (x, e) = (dicT t).bind (kDg4 u x e) := id rfl
theorem kDg4_q {x : T} : kDg4 u x e kd = (keyT u).bind (kDg5 x e kd) := id rfl
theorem kDg5_q : kDg5 (.p d) e kd ky = some (.p ((valD kd ky).getD d), e) := id rfl
def kDi4 (b : Bool) (e : Env) (ds : List (Key × D)) (k : Key) : Option (T × Env) := some (.p (.bl (if b then (valD ds k).isSome else !(valD ds k).isSome)), e)
def kDi3 (b : Bool) (s : T) (e : Env) (ds : List (Key × D)) : Option (T × Env) := (keyT s).bind (kDi4 b e ds)
def kDi2 (b : Bool) (s : T) (r : T × Env) : Option (T × Env) := (dicT r.1).bind (kDi3 b s r.2)
def kDi1 (b : Bool) (fo : EF) (s : T × Env) : Option (T × Env) := (fo s.2).bind (kDi2 b s.1)
theorem eDin_q {b : Bool} : eDin b fa fb env = (fa env).bind (kDi1 b fb) := id rfl
theorem kDi1_q {b : Bool} : kDi1 b fb (t, e) = (fb e).bind (kDi2 b t) := id rfl
theorem kDi2_q {b : Bool} : kDi2 b t (u, e) = (dicT u).bind (kDi3 b t e) := id rfl
theorem kDi3_q {b : Bool} : kDi3 b t e kd = (keyT t).bind (kDi4 b e kd) := id rfl
theorem kDi4_t : kDi4 true e kd ky = some (.p (.bl (valD kd ky).isSome), e) := id rfl
theorem kDi4_f : kDi4 false e kd ky = some (.p (.bl (!(valD kd ky).isSome)), e) := id rfl
def kPd5 (i : Nat) (t : T) (e : Env) (k : Key) (kvs : List (Key × D)) : Option (Fl × Env) := match t with
  | .p d => if kvs.length < 16000000 then some (.nx, e.set i (some (.dic (pairsT (putD kvs k d))))) else none
  | _ => none
def kPd4 (i : Nat) (t : T) (e : Env) (k : Key) : Option (Fl × Env) := (atD e i).bind (kPd5 i t e k)
def kPd3 (i : Nat) (t : T) (s : T × Env) : Option (Fl × Env) := (keyT s.1).bind (kPd4 i t s.2)
def kPd2 (i : Nat) (fk : EF) (t : T) (e : Env) (_ : List (Key × D)) : Option (Fl × Env) := (fk e).bind (kPd3 i t)
def kPd1 (i : Nat) (fk : EF) (r : T × Env) : Option (Fl × Env) := (atD r.2 i).bind (kPd2 i fk r.1 r.2)
theorem sPutD_q : sPutD i fa f env = (f env).bind (kPd1 i fa) := id rfl
theorem kPd1_q : kPd1 i fa (t, e) = (atD e i).bind (kPd2 i fa t e) := id rfl
theorem kPd2_q : kPd2 i fa t e kd = (fa e).bind (kPd3 i t) := id rfl
theorem kPd3_q : kPd3 i t (u, e) = (keyT u).bind (kPd4 i t e) := id rfl
theorem kPd4_q : kPd4 i t e ky = (atD e i).bind (kPd5 i t e ky) := id rfl
theorem kPd5_q : kPd5 i (.p d) e ky kd = if kd.length < 16000000 then some (.nx, e.set i (some (.dic (pairsT (putD kd ky d))))) else none := id rfl
def kAtD : Option (Option T) → Option (List (Key × D))
  | some (some (.dic kvs)) => frzK kvs
  | _ => none
theorem atD_q : atD env i = kAtD env[i]? := id rfl
theorem kAtD_q : kAtD (some (some (.dic (pairsT kd)))) = some kd := frzK_pairs kd
theorem dicT_p : dicT (.p (.dic kd)) = some kd := id rfl
theorem dicT_o : dicT (.dic (pairsT kd)) = some kd := frzK_pairs kd
theorem keyT_i : keyT (.p (.int z)) = some (.inl z) := id rfl
theorem keyT_s : keyT (.p (.str st)) = some (.inr st) := id rfl
theorem toD_d : ∀ kd : List (Key × D), (T.dic (pairsT kd)).toD = .dic kd := fun kd => by
  have h : ∀ kd : List (Key × D), T.toKs (pairsT kd) = kd := fun kd => by
    induction kd with
    | nil => rfl
    | cons x r ih => obtain ⟨k, d⟩ := x; show (k, (T.p d).toD) :: T.toKs (pairsT r) = _; rw [ih]; rfl
  show D.dic (T.toKs (pairsT kd)) = _
  rw [h]
theorem kV_d : kV env i (some (some (.dic (pairsT kd)))) = some (.p (.dic kd), env.set i (some (.p (.dic kd)))) := by
  show some (T.p (T.dic (pairsT kd)).toD, env.set i (some (.p (T.dic (pairsT kd)).toD))) = _
  rw [toD_d]
def kForM (G : GF) (body : SF) (r : T × Env) : Option (Fl × Env) := match r.1 with
  | .lst us => loopT G body us r.2
  | _ => none
theorem sForM_q : sForM f G F env = (f env).bind (kForM G F) := id rfl
theorem kForM_q : kForM G F (.lst ts, e) = loopT G F ts e := id rfl
def kLt2 (G : GF) (body : SF) (ts : List T) (r : Fl × Env) : Option (Fl × Env) := match r.1 with
  | .nx => loopT G body ts r.2
  | .ct => loopT G body ts r.2
  | .bk => some (.nx, r.2)
  | .rt t => some (.rt t, r.2)
def kLt1 (G : GF) (body : SF) (ts : List T) (e : Env) : Option (Fl × Env) := (body e).bind (kLt2 G body ts)
theorem loopT_n : loopT G F [] env = some (.nx, env) := id rfl
theorem loopT_c : loopT G F (t :: ts) env = (G t env).bind (kLt1 G F ts) := id rfl
theorem kLt1_q : kLt1 G F ts e = (F e).bind (kLt2 G F ts) := id rfl
theorem kLt2_n : kLt2 G F ts (.nx, e) = loopT G F ts e := id rfl
theorem kLt2_r : kLt2 G F ts (.rt t, e) = some (.rt t, e) := id rfl
def kM0 (g : Str → Option D) (x : T × Env) : Option (T × Env) := match x.1 with
  | .p (.str a) => (g a).map (kP x.2)
  | _ => none
theorem eM0_q {g : Str → Option D} : eM0 g f env = (f env).bind (kM0 g) := id rfl
theorem kM0_q {g : Str → Option D} : kM0 g (.p (.str st), e) = (g st).map (kP e) := id rfl
def kR3 (r : List T × Env) : Option (List D × Env) := match r.1 with
  | [.p (.int i), .p (.int j), .p (.int c)] => if c ≠ 0 ∧ c.natAbs < 1073741824 ∧ Builtin.Range.small i j c = true ∧ Builtin.Range.rangeSize i j c = ((Builtin.Range.rangeSize i j c).toNat : Int) then some (rng3D i c (Builtin.Range.rangeSize i j c).toNat, r.2) else none
  | _ => none
theorem iR3_q : iR3 r env = (r env).bind kR3 := id rfl
def kRun (r : Fl × Env) : Option T := match r.1 with
  | .rt t => some t
  | .nx => some (.p .non)
  | _ => none
theorem runF_q : runF n k F ds = if ds.length = k then (F (startE n ds)).bind kRun else none := id rfl
theorem kRun_r : kRun (.rt t, e) = some t := id rfl
theorem kRun_n : kRun (.nx, e) = some (.p .non) := id rfl
end DL
namespace DL
open PySem PySem.Spec PyProof.Rows L2
abbrev sg (l : List Nat) : Str := ⟨l.toArray⟩
theorem sg_len (l : List Nat) : (sg l).length = l.length := by rw [TL.len_tl]
theorem sg_app (a b : List Nat) : sg a ++ sg b = sg (a ++ b) := TL.ext_tl (TL.tl_append (sg a) (sg b))
theorem sg_inj {a b : List Nat} : sg a = sg b ↔ a = b := ⟨fun h => congrArg TL.tl h, fun h => by rw [h]⟩
def cod (s : String) : List Nat := s.toList.map Char.toNat
theorem ofS (s : String) : PySem.Str.ofString s = sg (cod s) := TL.ext_tl (TL.tl_ofString s)
theorem sg_ok (l : List Nat) : PyData.strOk (sg l) = l.all (fun c => decide (c < 1114112)) := by
  show (l.toArray).all _ = _
  rw [List.all_toArray]
theorem gAdd_g {a b : List Nat} (h : a.length + b.length ≤ 16777216) : gAdd (.str (sg a)) (.str (sg b)) = some (.str (sg (a ++ b))) := by
  rw [gAdd_s (by rw [sg_len, sg_len]; exact h), sg_app]
theorem ixT_sg {l : List Nat} {i : Int} (h : l.length ≤ 16777216) : ixT (.p (.str (sg l))) i = (atI l i).map fun c => .p (.str (sg [c])) := if_pos (by rw [sg_len]; exact h)
theorem eqQ_g {a b : List Nat} : eqQ (.str (sg a)) (.str (sg b)) = some (decide (a = b)) := by
  rw [eqQ_s]
  congr 1
  rw [Bool.eq_iff_iff]; simp [sg_inj]
theorem neQ_g {a b : List Nat} : neQ (.str (sg a)) (.str (sg b)) = some (!decide (a = b)) := by unfold neQ; rw [eqQ_g]; rfl
theorem repS_g (a : List Nat) (n : Int) : repS (sg a) n = sg (List.replicate n.toNat a).flatten := rfl
theorem gMulA_g {a : List Nat} {n : Int} (h1 : -1000000000 < n) (h2 : n < 1000000000) (h : a.length * n.toNat ≤ 16777216) : gMulA (.str (sg a)) (.int n) = some (.str (sg (List.replicate n.toNat a).flatten)) := by
  show (if _ then _ else none) = _
  rw [if_pos ⟨h1, h2, by rw [sg_len]; exact h⟩, repS_g]
theorem inQ_g (c : Nat) (l : List Nat) : inQ (.str (sg [c])) (.str (sg l)) = some (decide (c ∈ l)) := rfl
theorem signsD_g (l : List Nat) : signsD (sg l) = l.map fun c => .str (sg [c]) := rfl
def dg (i : Int) : List Nat := cod (toString i)
theorem toS (i : Int) : ((toString i : String) : Str) = sg (dg i) := ofS _
theorem gStr_i {i : Int} (h1 : -1606938044258990275541962092341162602522202993782792835301376 < i) (h2 : i < 1606938044258990275541962092341162602522202993782792835301376) : gStr (.p (.int i)) = some (.str (sg (dg i))) := by
  show (if _ then some (D.str (toString i)) else none) = _
  rw [if_pos (by omega), toS]
theorem gStr_s {s : Str} : gStr (.p (.str s)) = some (.str s) := rfl
theorem cod_ok (s : String) : ∀ c ∈ cod s, c < 1114112 := by
  intro c h
  obtain ⟨x, _, rfl⟩ := List.mem_map.mp h
  have hv : x.val.isValidChar := x.valid
  have h0 : x.toNat = x.val.toNat := rfl
  rw [h0]
  rcases hv with h | h <;> (have := h; simp only [UInt32.toNat] at *; omega)
mutual
def dOk : Nat → D → Bool
  | _, .non => true
  | _, .bl _ => true
  | _, .int _ => true
  | _, .str s => PyData.strOk s
  | 0, .lst _ => false
  | n + 1, .lst ds => dOks n ds
  | 0, .tup _ => false
  | n + 1, .tup ds => dOks n ds
  | _, .dic _ => false
  | _, .dit _ => false
  | _, .obj _ _ => false
  | _, .al _ => false
  | _, .din _ => false
  | 0, .tux _ => false
  | n + 1, .tux ds => dOks n ds
def dOks : Nat → List D → Bool
  | _, [] => true
  | n, d :: ds => dOk n d && dOks n ds
end
mutual
theorem dOk_py : ∀ (n : Nat) (d : D), dOk n d = true → ∃ p, toPy d = some p ∧ p.canLay0 = true ∧ p.depth ≤ n ∧ PyData.eqv p p = true
  | _, .non, _ => ⟨.none, rfl, rfl, Nat.zero_le _, rfl⟩
  | _, .bl b, _ => ⟨.bool b, rfl, rfl, Nat.zero_le _, by simp [PyData.eqv]⟩
  | _, .int b, _ => ⟨.int b, rfl, rfl, Nat.zero_le _, by simp [PyData.eqv]⟩
  | _, .str b, h => ⟨.str b, rfl, by unfold dOk at h; exact h, Nat.zero_le _, by simp [PyData.eqv]⟩
  | 0, .lst _, h => by unfold dOk at h; cases h
  | n + 1, .lst ds, h => by
    unfold dOk at h
    obtain ⟨ps, h1, h2, h3, h4⟩ := dOks_py n ds h
    refine ⟨.list ps, by show (toPys ds).map _ = _; rw [h1]; rfl, h2, ?_, by rw [PyData.eqv]; exact h4⟩
    show PyData.depthAll ps + 1 ≤ n + 1
    omega
  | 0, .tup _, h => by unfold dOk at h; cases h
  | n + 1, .tup ds, h => by
    unfold dOk at h
    obtain ⟨ps, h1, h2, h3, h4⟩ := dOks_py n ds h
    refine ⟨.tuple ps, by show (toPys ds).map _ = _; rw [h1]; rfl, h2, ?_, by rw [PyData.eqv]; exact h4⟩
    show PyData.depthAll ps + 1 ≤ n + 1
    omega
  | _, .dic _, h => by unfold dOk at h; cases h
  | _, .dit _, h => by unfold dOk at h; cases h
  | _, .obj _ _, h => by unfold dOk at h; cases h
  | _, .al _, h => by unfold dOk at h; cases h
  | _, .din _, h => by unfold dOk at h; cases h
  | 0, .tux _, h => by unfold dOk at h; cases h
  | n + 1, .tux ds, h => by
    unfold dOk at h
    obtain ⟨ps, h1, h2, h3, h4⟩ := dOks_py n ds h
    refine ⟨.tuple ps, by show (toPys ds).map _ = _; rw [h1]; rfl, h2, ?_, by rw [PyData.eqv]; exact h4⟩
    show PyData.depthAll ps + 1 ≤ n + 1
    omega
theorem dOks_py : ∀ (n : Nat) (ds : List D), dOks n ds = true → ∃ ps, toPys ds = some ps ∧ PyData.canLayAll0 ps = true ∧ PyData.depthAll ps ≤ n ∧ PyData.eqvAll ps ps = true
  | _, [], _ => ⟨[], rfl, rfl, Nat.zero_le _, rfl⟩
  | n, d :: ds, h => by
    unfold dOks at h
    rw [Bool.and_eq_true] at h
    obtain ⟨p, h1, h2, h3, h4⟩ := dOk_py n d h.1
    obtain ⟨ps, k1, k2, k3, k4⟩ := dOks_py n ds h.2
    refine ⟨p :: ps, by show (toPy d).bind _ = _; rw [h1]; show (toPys ds).map _ = _; rw [k1]; rfl, ?_, ?_, ?_⟩
    · show (p.canLay0 && PyData.canLayAll0 ps) = true
      rw [h2, k2]; rfl
    · show max p.depth (PyData.depthAll ps) ≤ n
      omega
    · show (PyData.eqv p p && PyData.eqvAll ps ps) = true
      rw [h4, k4]; rfl
end
theorem eqQ_refl {d : D} (n : Nat) (hn : n ≤ 64) (h : dOk n d = true) : eqQ d d = some true := by
  have deep : eqDeep d d = some true := by
    obtain ⟨p, h1, h2, h3, h4⟩ := dOk_py n d h
    unfold eqDeep
    rw [h1]
    show (if (SeqAt.shaped p && SeqAt.shaped p) = true then some (PyData.eqv p p) else none) = some true
    have hs : SeqAt.shaped p = true := by
      unfold SeqAt.shaped
      rw [h2, decide_eq_true (by omega)]; rfl
    rw [hs, h4]; rfl
  cases d with
  | int i => rw [eqQ_i]; simp
  | str i => rw [eqQ_s]; simp
  | bl i => rw [eqQ_b]; simp
  | non => rfl
  | lst ds => exact deep
  | tup ds => exact deep
  | dic ds => exact deep
  | dit ds => exact deep
  | obj _ ds => exact deep
  | al _ => exact deep
  | din _ => exact deep
  | tux ds => exact deep
theorem dOks_all {n : Nat} : ∀ {ds : List D}, (∀ d ∈ ds, dOk n d = true) → dOks n ds = true
  | [], _ => by unfold dOks; rfl
  | d :: ds, h => by unfold dOks; rw [h d (by simp), dOks_all fun x hx => h x (by simp [hx])]; rfl
theorem dOk_lst {n : Nat} {ds : List D} (h : ∀ d ∈ ds, dOk n d = true) : dOk (n + 1) (.lst ds) = true := by unfold dOk; exact dOks_all h
theorem dOk_tup {n : Nat} {ds : List D} (h : ∀ d ∈ ds, dOk n d = true) : dOk (n + 1) (.tup ds) = true := by unfold dOk; exact dOks_all h
theorem dOk_int {n : Nat} {i : Int} : dOk n (.int i) = true := by unfold dOk; rfl
theorem dOk_sg {n : Nat} {l : List Nat} (h : ∀ c ∈ l, c < 1114112) : dOk n (.str (sg l)) = true := by
  unfold dOk
  rw [sg_ok, List.all_eq_true]
  exact fun c hc => decide_eq_true (h c hc)
theorem atI_in {α : Type} {xs : List α} {i : Int} (h0 : 0 ≤ i) (h1 : i < xs.length) : ∃ x, x ∈ xs ∧ atI xs i = some x ∧ xs[i.toNat]? = some x := by
  have hlt : i.toNat < xs.length := by omega
  refine ⟨xs[i.toNat], List.getElem_mem hlt, ?_, List.getElem?_eq_getElem hlt⟩
  have := atI_nat (xs := xs) (j := i.toNat) (List.getElem?_eq_getElem hlt)
  rwa [show ((i.toNat : Nat) : Int) = i by omega] at this
theorem toVs_strs : ∀ ss : List Str, toVs (ss.map D.str) = some (ss.map V.str)
  | [] => rfl
  | s :: ss => by
    show (toV (.str s)).bind (fun v => (toVs (ss.map D.str)).map (v :: ·)) = _
    rw [toVs_strs ss]; rfl
theorem inV_strs (s : Str) (ss : List Str) : inV (.str s) (ss.map V.str) = decide (s ∈ ss) := by
  unfold inV
  rw [Bool.eq_iff_iff]
  simp only [List.any_map, List.any_eq_true, Function.comp_apply, decide_eq_true_eq]
  constructor
  · rintro ⟨x, h1, h2⟩
    have : (x == s) = true := h2
    rw [← eq_of_beq this]; exact h1
  · intro h
    exact ⟨s, h, show (s == s) = true from beq_self_eq_true s⟩
theorem flat_strs (ss : List Str) : (ss.map V.str).all flatV = true := by
  rw [List.all_eq_true]
  intro x hx
  obtain ⟨y, _, rfl⟩ := List.mem_map.mp hx
  rfl
theorem inQ_strs (s : Str) (ss : List Str) : inQ (.str s) (.lst (ss.map D.str)) = some (decide (s ∈ ss)) := by
  show inFlat (.str s) (ss.map D.str) = _
  unfold inFlat
  rw [toVs_strs]
  show (if (flatV (.str s) && (ss.map V.str).all flatV) = true then some (inV (.str s) (ss.map V.str)) else none) = _
  rw [flat_strs, inV_strs]; rfl
theorem ifLe {α : Type} {n m : Nat} {a b : α} (h : n ≤ m) : (if n ≤ m then a else b) = a := if_pos h
theorem ifLt {α : Type} {n m : Nat} {a b : α} (h : n < m) : (if n < m then a else b) = a := if_pos h
theorem rng_len (lo : Int) (n : Nat) : (rngD lo n).length = n := by simp [rngD]
theorem sIx_i {n d : Nat} {k : Int} (h : 0 ≤ k) : HT.sIx n d (some k) = min k.toNat n := by
  show (if k < 0 then (k + (n : Int)).toNat else min k.toNat n) = _
  rw [if_neg (by omega)]
theorem notInQ_g (c : Nat) (l : List Nat) : notInQ (.str (sg [c])) (.str (sg l)) = some (!decide (c ∈ l)) := rfl
theorem gLen_g {l : List Nat} (h : l.length ≤ 16777216) : gLen (.p (.str (sg l))) = some (.int (l.length : Int)) := by
  show ((if (sg l).length ≤ 16777216 then some (((sg l).length : Nat) : Int) else none)).map D.int = _
  rw [sg_len, if_pos h]; rfl
theorem valD_cons (k j : Key) (d : D) (r : List (Key × D)) : valD ((j, d) :: r) k = if j = k then some d else valD r k := by
  by_cases c : j = k
  · rw [if_pos c]; simp [valD, List.find?_cons, c]
  · rw [if_neg c]; simp [valD, List.find?_cons, c]
end DL
namespace DL
open PySem PySem.Spec PyProof.Rows L2
section
variable {G : GF} {F : SF} {d : D} {ds : List D} {env e2 : DL.Env} {r : Option (Fl × DL.Env)} {own : List Nat} {c : CF} {el : EF}
end
def cutA {α : Type} (xs : List α) (lo hi : Option Int) : List α := (xs.drop (HT.sIx xs.length 0 lo)).take (HT.sIx xs.length xs.length hi - HT.sIx xs.length 0 lo)
theorem cutD_map {α : Type} (dd : α → D) (xs : List α) (lo hi : Option Int) : cutD (xs.map dd) lo hi = (cutA xs lo hi).map dd := by
  unfold cutD cutA
  rw [List.length_map, ← List.map_drop, ← List.map_take]
theorem cutA_mem {α : Type} {xs : List α} {lo hi : Option Int} {x : α} (h : x ∈ cutA xs lo hi) : x ∈ xs := List.mem_of_mem_drop (List.mem_of_mem_take h)
theorem cutA_len {α : Type} (xs : List α) (lo hi : Option Int) : (cutA xs lo hi).length ≤ xs.length := by
  unfold cutA
  rw [List.length_take, List.length_drop]; omega
theorem toDs_map2 {α : Type} (f : α → T) (g : α → D) (xs : List α) (h : ∀ x ∈ xs, (f x).toD = g x) : T.toDs (xs.map f) = xs.map g := by
  rw [toDs_map, List.map_map]
  exact List.map_congr_left h
end DL
set_option maxHeartbeats 2000000
namespace ZG
open PySem PySem.Spec PyProof.Rows L2
open PySem.Sem (wp)
structure Far (z TI TO i1 i2 : Addr) (d1 d2 : List Addr) : Prop where
  TIz : TI ≠ z
  TOz : TO ≠ z
  i1z : i1 ≠ z
  i2z : i2 ≠ z
  TITO : TI ≠ TO
  TIi1 : TI ≠ i1
  TIi2 : TI ≠ i2
  TOi1 : TO ≠ i1
  TOi2 : TO ≠ i2
  d1z : ∀ c ∈ d1, c ≠ z
  d1TO : ∀ c ∈ d1, c ≠ TO
  d1i2 : ∀ c ∈ d1, c ≠ i2
  d2z : ∀ c ∈ d2, c ≠ z
  d2TO : ∀ c ∈ d2, c ≠ TO
  d2i1 : ∀ c ∈ d2, c ≠ i1
section
variable {P : Program} {w : World} {A : Around} {E : Value → Shared → Prop} {s : Shared} {z TI TO i1 i2 : Addr} {d1 d2 : List Addr} {S1 S1' S2 S2' : Heap → Prop} {V1 V2 : Value → Prop} {a b : Value}
end
def chainZ (n : Nat) : List Addr := [n + 4, n + 2, n + 3, n, n + 1]
structure StZ (x : Str) (t : Tok) (b : Addr) (n k : Nat) (h : Heap) : Prop where
  zp : IsZip h (n + 4) (n + 2) (n + 3) .none
  pI : IsPair h (n + 2) (.ref n) (.ref (n + 1))
  pO : ∃ u v, IsPair h (n + 3) u v
  si : h.IsStrIter n "str_ascii_iterator" x t k
  li : h.IsListIter (n + 1) b k
theorem StZ.there {x : Str} {t : Tok} {b : Addr} {n k : Nat} {h : Heap} (S : StZ x t b n k h) : ∀ c ∈ chainZ n, ∃ o, h.get? c = some o ∧ ∀ v, o.data ≠ .cell v := fun c hc => by
  obtain ⟨u, v, pO⟩ := S.pO
  obtain ⟨o1, g1, _, d1⟩ := S.si
  obtain ⟨o2, g2, _, d2⟩ := S.li
  simp only [chainZ, List.mem_cons, List.not_mem_nil, or_false] at hc
  rcases hc with rfl | rfl | rfl | rfl | rfl
  · exact ⟨_, S.zp, fun _ q => nomatch q⟩
  · exact ⟨_, S.pI, fun _ q => nomatch q⟩
  · exact ⟨_, pO, fun _ q => nomatch q⟩
  · exact ⟨o1, g1, fun _ q => by rw [d1] at q; cases q⟩
  · exact ⟨o2, g2, fun _ q => by rw [d2] at q; cases q⟩
abbrev hz1 (h : Heap) (x : Str) (t : Tok) : Heap := h.push { cls := .type "str_ascii_iterator", data := .fields #[.str x t, .int 0 0] }
abbrev hz2 (h : Heap) (x : Str) (t : Tok) (b : Addr) : Heap := (hz1 h x t).push { cls := .type "list_iterator", data := .fields #[.ref b, .int 0 0] }
abbrev hz3 (h : Heap) (x : Str) (t : Tok) (b : Addr) : Heap := (hz2 h x t b).push { cls := .type "tuple", data := .seq #[.ref h.objs.size, .ref (hz1 h x t).objs.size] }
end ZG
namespace DL
open PySem PySem.Spec PyProof.Rows L2
variable {K : KW} {G1 : Hp}
end DL
set_option maxHeartbeats 1000000
namespace DL
open PySem PySem.Spec PyProof.Rows L2
inductive Stp where
  | key (k : Key) | tky (k : List Key) | ix (n : Nat) | it (n : Nat) | fld (f : Str)
def unb : T → T
  | .box _ t => t
  | t => t
def reb : T → T → T
  | .box a _, u => .box a u
  | _, u => u
def valT {κ : Type} [DecidableEq κ] : List (κ × T) → κ → Option T
  | [], _ => none
  | (j, t) :: r, k => if j = k then some t else valT r k
def setT {κ : Type} [DecidableEq κ] : List (κ × T) → κ → T → List (κ × T)
  | [], _, _ => []
  | (j, t) :: r, k, u => if j = k then (j, u) :: r else (j, t) :: setT r k u
def stepT : Stp → T → Option T
  | .key k, .dic kvs => valT kvs k
  | .tky k, .dit kvs => valT kvs k
  | .ix n, .lst ts => ts[n]?
  | .it n, .tup ts => ts[n]?
  | .fld f, .obj _ fs => valT fs f
  | _, _ => none
def setS : Stp → T → T → T
  | .key k, .dic kvs, u => .dic (setT kvs k u)
  | .tky k, .dit kvs, u => .dit (setT kvs k u)
  | .ix n, .lst ts, u => .lst (ts.set n u)
  | .it n, .tup ts, u => .tup (ts.set n u)
  | .fld f, .obj n fs, u => .obj n (setT fs f u)
  | _, t, _ => t
def getP : List Stp → T → Option T
  | [], t => some t
  | s :: P, t => (stepT s (unb t)).bind (getP P)
def setP : List Stp → T → T → T
  | [], _, u => u
  | s :: P, t, u => match stepT s (unb t) with
    | some c => reb t (setS s (unb t) (setP P c u))
    | none => t
def ChS (H : Hp) : Stp → V → V → Prop
  | .key k, v, w => ∃ a ws, v = .ref a ∧ H a = some (.dK ws) ∧ valV ws k = some w
  | .tky k, v, w => ∃ a ws, v = .ref a ∧ H a = some (.dT ws) ∧ valV ws k = some w
  | .ix n, v, w => ∃ a xs, v = .ref a ∧ H a = some (.lst xs) ∧ xs[n]? = some w
  | .it n, v, w => ∃ a xs, v = .ref a ∧ H a = some (.tup xs) ∧ xs[n]? = some w
  | .fld f, v, w => ∃ a C dx fs, v = .ref a ∧ H a = some (.ins C dx fs) ∧ fs.lookup f = some w
def Ch (H : Hp) : List Stp → V → V → Prop
  | [], v, w => w = v
  | s :: P, v, w => ∃ u, ChS H s v u ∧ Ch H P u w
theorem ChS.det {H : Hp} {s : Stp} {v w w' : V} (h : ChS H s v w) (h' : ChS H s v w') : w = w' := by
  cases s with
  | key k =>
    obtain ⟨a, ws, rfl, h2, h3⟩ := h
    obtain ⟨a', ws', e, h2', h3'⟩ := h'
    cases e
    rw [h2] at h2'; cases h2'
    rw [h3] at h3'; exact Option.some.inj h3'
  | tky k =>
    obtain ⟨a, ws, rfl, h2, h3⟩ := h
    obtain ⟨a', ws', e, h2', h3'⟩ := h'
    cases e
    rw [h2] at h2'; cases h2'
    rw [h3] at h3'; exact Option.some.inj h3'
  | ix n =>
    obtain ⟨a, ws, rfl, h2, h3⟩ := h
    obtain ⟨a', ws', e, h2', h3'⟩ := h'
    cases e
    rw [h2] at h2'; cases h2'
    rw [h3] at h3'; exact Option.some.inj h3'
  | it n =>
    obtain ⟨a, ws, rfl, h2, h3⟩ := h
    obtain ⟨a', ws', e, h2', h3'⟩ := h'
    cases e
    rw [h2] at h2'; cases h2'
    rw [h3] at h3'; exact Option.some.inj h3'
  | fld f =>
    obtain ⟨a, C, dx, ws, rfl, h2, h3⟩ := h
    obtain ⟨a', C', dx', ws', e, h2', h3'⟩ := h'
    cases e
    rw [h2] at h2'; cases h2'
    rw [h3] at h3'; exact Option.some.inj h3'
theorem Ch.det {H : Hp} : ∀ {P : List Stp} {v w w' : V}, Ch H P v w → Ch H P v w' → w = w'
  | [], _, _, _, h, h' => h.trans h'.symm
  | s :: P, _, _, _, ⟨u, h1, h2⟩, ⟨u', h1', h2'⟩ => by
    have := h1.det h1'
    subst this
    exact Ch.det h2 h2'
theorem ChS.same {H H' : Hp} (e : Same H H') {s : Stp} {v w : V} (h : ChS H s v w) : ChS H' s v w := by
  cases s with
  | key k => obtain ⟨a, ws, h1, h2, h3⟩ := h; exact ⟨a, ws, h1, e _ _ h2, h3⟩
  | tky k => obtain ⟨a, ws, h1, h2, h3⟩ := h; exact ⟨a, ws, h1, e _ _ h2, h3⟩
  | ix k => obtain ⟨a, ws, h1, h2, h3⟩ := h; exact ⟨a, ws, h1, e _ _ h2, h3⟩
  | it k => obtain ⟨a, ws, h1, h2, h3⟩ := h; exact ⟨a, ws, h1, e _ _ h2, h3⟩
  | fld k => obtain ⟨a, C, dx, ws, h1, h2, h3⟩ := h; exact ⟨a, C, dx, ws, h1, e _ _ h2, h3⟩
theorem Ch.same {H H' : Hp} (e : Same H H') : ∀ {P : List Stp} {v w : V}, Ch H P v w → Ch H' P v w
  | [], _, _, h => h
  | s :: P, _, _, ⟨u, h1, h2⟩ => ⟨u, h1.same e, Ch.same e h2⟩
theorem Ch.app {H : Hp} : ∀ {P : List Stp} {v w x : V} {s : Stp}, Ch H P v w → ChS H s w x → Ch H (P ++ [s]) v x
  | [], _, _, _, _, h, h' => by rw [show _ = _ from h] at h'; exact ⟨_, h', rfl⟩
  | s :: P, _, _, _, _, ⟨u, h1, h2⟩, h' => ⟨u, h1, Ch.app h2 h'⟩
section
variable {K : KW} {G H : Hp}
theorem RpTs.foc : ∀ {ts : List T} {vs : List V} {o : List Addr} {n : Nat} {u : T}, RpTs K G H ts vs o → ts[n]? = some u → ∃ w o1 o2, vs[n]? = some w ∧ Rp K G H u w o1 ∧ o.Perm (o1 ++ o2) ∧
    ∀ {G' H' : Hp} {u' : T} {o1' : List Addr}, Same G G' → (∀ a ∈ o2, H' a = H a) → Rp K G' H' u' w o1' → ∃ o', RpTs K G' H' (ts.set n u') vs o' ∧ o'.Perm (o1' ++ o2)
  | [], _, _, _, _, _, e => by simp at e
  | t :: ts, _, _, 0, u, ⟨v, r, o1, o2, h1, h2, h3, h4⟩, e => by
    simp at e; subst e; subst h1
    exact ⟨v, o1, o2, rfl, h2, by rw [h4], fun {G' H' u' o1'} sg k h => ⟨o1' ++ o2, ⟨v, r, o1', o2, rfl, h, h3.mono sg _ k, rfl⟩, .refl _⟩⟩
  | t :: ts, _, _, n + 1, u, ⟨v, r, o1, o2, h1, h2, h3, h4⟩, e => by
    subst h1
    obtain ⟨w, p1, p2, g1, g2, g3, g4⟩ := RpTs.foc (n := n) h3 (by simpa using e)
    refine ⟨w, p1, o1 ++ p2, by simpa using g1, g2, ?_, fun {G' H' u' o1'} sg k h => ?_⟩
    · rw [h4]; exact (List.Perm.append_left o1 g3).trans (perm_mid _ _ _)
    · obtain ⟨o', f1, f2⟩ := g4 sg (fun a ha => k a (by simp [ha])) h
      exact ⟨o1 ++ o', ⟨v, r, o1, o', rfl, h2.mono sg _ (fun a ha => k a (by simp [ha])), f1, rfl⟩, (List.Perm.append_left o1 f2).trans (perm_mid _ _ _)⟩
theorem RpTk.foc : ∀ {ts : List (Key × T)} {vs : List (Key × V)} {o : List Addr} {n : Key} {u : T}, RpTk K G H ts vs o → valT ts n = some u → ∃ w o1 o2, valV vs n = some w ∧ Rp K G H u w o1 ∧ o.Perm (o1 ++ o2) ∧
    ∀ {G' H' : Hp} {u' : T} {o1' : List Addr}, Same G G' → (∀ a ∈ o2, H' a = H a) → Rp K G' H' u' w o1' → ∃ o', RpTk K G' H' (setT ts n u') vs o' ∧ o'.Perm (o1' ++ o2)
  | [], _, _, _, _, _, e => by simp [valT] at e
  | (j, t) :: ts, _, _, n, u, ⟨v, r, o1, o2, h1, h2, h3, h4⟩, e => by
    subst h1
    by_cases c : j = n
    · rw [valT, if_pos c] at e; cases e
      refine ⟨v, o1, o2, valV_pos (by exact c), h2, by rw [h4], fun {G' H' u' o1'} sg k h => ⟨o1' ++ o2, ?_, .refl _⟩⟩
      rw [setT, if_pos c]
      exact ⟨v, r, o1', o2, rfl, h, h3.mono sg _ k, rfl⟩
    · rw [valT, if_neg c] at e
      obtain ⟨w, p1, p2, g1, g2, g3, g4⟩ := RpTk.foc h3 e
      refine ⟨w, p1, o1 ++ p2, (valV_neg (by exact c)).trans g1, g2, ?_, fun {G' H' u' o1'} sg k h => ?_⟩
      · rw [h4]; exact (List.Perm.append_left o1 g3).trans (perm_mid _ _ _)
      · obtain ⟨o', f1, f2⟩ := g4 sg (fun a ha => k a (by simp [ha])) h
        rw [setT, if_neg c]
        exact ⟨o1 ++ o', ⟨v, r, o1, o', rfl, h2.mono sg _ (fun a ha => k a (by simp [ha])), f1, rfl⟩, (List.Perm.append_left o1 f2).trans (perm_mid _ _ _)⟩
theorem RpTt.foc : ∀ {ts : List (List Key × T)} {vs : List (List Key × V)} {o : List Addr} {n : List Key} {u : T}, RpTt K G H ts vs o → valT ts n = some u → ∃ w o1 o2, valV vs n = some w ∧ Rp K G H u w o1 ∧ o.Perm (o1 ++ o2) ∧
    ∀ {G' H' : Hp} {u' : T} {o1' : List Addr}, Same G G' → (∀ a ∈ o2, H' a = H a) → Rp K G' H' u' w o1' → ∃ o', RpTt K G' H' (setT ts n u') vs o' ∧ o'.Perm (o1' ++ o2)
  | [], _, _, _, _, _, e => by simp [valT] at e
  | (j, t) :: ts, _, _, n, u, ⟨v, r, o1, o2, h1, h2, h3, h4⟩, e => by
    subst h1
    by_cases c : j = n
    · rw [valT, if_pos c] at e; cases e
      refine ⟨v, o1, o2, valV_pos (by exact c), h2, by rw [h4], fun {G' H' u' o1'} sg k h => ⟨o1' ++ o2, ?_, .refl _⟩⟩
      rw [setT, if_pos c]
      exact ⟨v, r, o1', o2, rfl, h, h3.mono sg _ k, rfl⟩
    · rw [valT, if_neg c] at e
      obtain ⟨w, p1, p2, g1, g2, g3, g4⟩ := RpTt.foc h3 e
      refine ⟨w, p1, o1 ++ p2, (valV_neg (by exact c)).trans g1, g2, ?_, fun {G' H' u' o1'} sg k h => ?_⟩
      · rw [h4]; exact (List.Perm.append_left o1 g3).trans (perm_mid _ _ _)
      · obtain ⟨o', f1, f2⟩ := g4 sg (fun a ha => k a (by simp [ha])) h
        rw [setT, if_neg c]
        exact ⟨o1 ++ o', ⟨v, r, o1, o', rfl, h2.mono sg _ (fun a ha => k a (by simp [ha])), f1, rfl⟩, (List.Perm.append_left o1 f2).trans (perm_mid _ _ _)⟩
theorem lookup_cons (j n : Str) (v : V) (r : List (Str × V)) : List.lookup n ((j, v) :: r) = if j = n then some v else List.lookup n r := by
  rw [List.lookup_cons]
  by_cases c : j = n
  · subst c; simp
  · rw [if_neg c]
    have : (n == j) = false := by simpa using fun e => c e.symm
    rw [this]
theorem RpTf.foc : ∀ {ts : List (Str × T)} {vs : List (Str × V)} {o : List Addr} {n : Str} {u : T}, RpTf K G H ts vs o → valT ts n = some u → ∃ w o1 o2, vs.lookup n = some w ∧ Rp K G H u w o1 ∧ o.Perm (o1 ++ o2) ∧
    ∀ {G' H' : Hp} {u' : T} {o1' : List Addr}, Same G G' → (∀ a ∈ o2, H' a = H a) → Rp K G' H' u' w o1' → ∃ o', RpTf K G' H' (setT ts n u') vs o' ∧ o'.Perm (o1' ++ o2)
  | [], _, _, _, _, _, e => by simp [valT] at e
  | (j, t) :: ts, _, _, n, u, ⟨v, r, o1, o2, h1, h2, h3, h4⟩, e => by
    subst h1
    by_cases c : j = n
    · rw [valT, if_pos c] at e; cases e
      refine ⟨v, o1, o2, by rw [lookup_cons, if_pos c], h2, by rw [h4], fun {G' H' u' o1'} sg k h => ⟨o1' ++ o2, ?_, .refl _⟩⟩
      rw [setT, if_pos c]
      exact ⟨v, r, o1', o2, rfl, h, h3.mono sg _ k, rfl⟩
    · rw [valT, if_neg c] at e
      obtain ⟨w, p1, p2, g1, g2, g3, g4⟩ := RpTf.foc h3 e
      refine ⟨w, p1, o1 ++ p2, by rw [lookup_cons, if_neg c]; exact g1, g2, ?_, fun {G' H' u' o1'} sg k h => ?_⟩
      · rw [h4]; exact (List.Perm.append_left o1 g3).trans (perm_mid _ _ _)
      · obtain ⟨o', f1, f2⟩ := g4 sg (fun a ha => k a (by simp [ha])) h
        rw [setT, if_neg c]
        exact ⟨o1 ++ o', ⟨v, r, o1, o', rfl, h2.mono sg _ (fun a ha => k a (by simp [ha])), f1, rfl⟩, (List.Perm.append_left o1 f2).trans (perm_mid _ _ _)⟩
theorem Rp.unb {t : T} {v : V} {o : List Addr} (h : Rp K G H t v o) : Rp K G H (DL.unb t) v o := by
  cases t with
  | box a t => exact h.2
  | _ => exact h
theorem Rp.reb {G' H' : Hp} {t u : T} {v : V} {o o' : List Addr} (h : Rp K G H t v o) (h' : Rp K G' H' u v o') : Rp K G' H' (DL.reb t u) v o' := by
  cases t with
  | box a t => exact ⟨h.1, h'⟩
  | _ => exact h'
theorem Rp.focS {s : Stp} {t u : T} {v : V} {o : List Addr} (sGH : Same G H) (e : stepT s t = some u) (h : Rp K G H t v o) : ∃ w o1 o2, ChS H s v w ∧ Rp K G H u w o1 ∧ o.Perm (o1 ++ o2) ∧
    ∀ {G' H' : Hp} {u' : T} {o1' : List Addr}, Same G G' → (∀ a ∈ o2, H' a = H a) → Rp K G' H' u' w o1' → ∃ o', Rp K G' H' (setS s t u') v o' ∧ o'.Perm (o1' ++ o2) := by
  unfold stepT at e
  split at e
  · obtain ⟨a, ws, o', h1, h2, h3, h4⟩ := h
    obtain ⟨w, o1, o2, g1, g2, g3, g4⟩ := h3.foc e
    refine ⟨w, o1, a :: o2, ⟨a, ws, h1, h2, g1⟩, g2, ?_, fun {G' H' u' o1'} sg k hh => ?_⟩
    · rw [h4]; exact (List.Perm.cons a g3).trans List.perm_middle.symm
    · obtain ⟨o'', f1, f2⟩ := g4 sg (fun b hb => k b (by simp [hb])) hh
      exact ⟨a :: o'', ⟨a, ws, o'', h1, by rw [k a (by simp)]; exact h2, f1, rfl⟩, (List.Perm.cons a f2).trans List.perm_middle.symm⟩
  · obtain ⟨a, ws, o', h1, h2, h3, h4⟩ := h
    obtain ⟨w, o1, o2, g1, g2, g3, g4⟩ := h3.foc e
    refine ⟨w, o1, a :: o2, ⟨a, ws, h1, h2, g1⟩, g2, ?_, fun {G' H' u' o1'} sg k hh => ?_⟩
    · rw [h4]; exact (List.Perm.cons a g3).trans List.perm_middle.symm
    · obtain ⟨o'', f1, f2⟩ := g4 sg (fun b hb => k b (by simp [hb])) hh
      exact ⟨a :: o'', ⟨a, ws, o'', h1, by rw [k a (by simp)]; exact h2, f1, rfl⟩, (List.Perm.cons a f2).trans List.perm_middle.symm⟩
  · obtain ⟨a, ws, o', h1, h2, h3, h4⟩ := h
    obtain ⟨w, o1, o2, g1, g2, g3, g4⟩ := h3.foc e
    refine ⟨w, o1, a :: o2, ⟨a, ws, h1, h2, g1⟩, g2, ?_, fun {G' H' u' o1'} sg k hh => ?_⟩
    · rw [h4]; exact (List.Perm.cons a g3).trans List.perm_middle.symm
    · obtain ⟨o'', f1, f2⟩ := g4 sg (fun b hb => k b (by simp [hb])) hh
      exact ⟨a :: o'', ⟨a, ws, o'', h1, by rw [k a (by simp)]; exact h2, f1, rfl⟩, (List.Perm.cons a f2).trans List.perm_middle.symm⟩
  · obtain ⟨a, ws, h1, h2, h3⟩ := h
    obtain ⟨w, o1, o2, g1, g2, g3, g4⟩ := h3.foc e
    refine ⟨w, o1, o2, ⟨a, ws, h1, ?_, g1⟩, g2, g3, fun {G' H' u' o1'} sg k hh => ?_⟩
    · exact sGH _ _ h2
    · obtain ⟨o'', f1, f2⟩ := g4 sg k hh
      exact ⟨o'', ⟨a, ws, h1, sg _ _ h2, f1⟩, f2⟩
  · obtain ⟨a, C, dx, ws, o', h1, h0, h2, h3, h4⟩ := h
    obtain ⟨w, o1, o2, g1, g2, g3, g4⟩ := h3.foc e
    refine ⟨w, o1, a :: o2, ⟨a, C, dx, ws, h1, h2, g1⟩, g2, ?_, fun {G' H' u' o1'} sg k hh => ?_⟩
    · rw [h4]; exact (List.Perm.cons a g3).trans List.perm_middle.symm
    · obtain ⟨o'', f1, f2⟩ := g4 sg (fun b hb => k b (by simp [hb])) hh
      exact ⟨a :: o'', ⟨a, C, dx, ws, o'', h1, h0, by rw [k a (by simp)]; exact h2, f1, rfl⟩, (List.Perm.cons a f2).trans List.perm_middle.symm⟩
  · cases e
theorem Rp.foc (sGH : Same G H) : ∀ {P : List Stp} {t u : T} {v : V} {o : List Addr}, getP P t = some u → Rp K G H t v o → ∃ w o1 o2, Ch H P v w ∧ Rp K G H u w o1 ∧ o.Perm (o1 ++ o2) ∧
    ∀ {G' H' : Hp} {u' : T} {o1' : List Addr}, Same G G' → (∀ a ∈ o2, H' a = H a) → Rp K G' H' u' w o1' → ∃ o', Rp K G' H' (setP P t u') v o' ∧ o'.Perm (o1' ++ o2)
  | [], t, u, v, o, e, h => by
    cases e
    exact ⟨v, o, [], rfl, h, by simp, fun {G' H' u' o1'} sg k hh => ⟨o1', hh, by simp⟩⟩
  | s :: P, t, u, v, o, e, h => by
    obtain ⟨c, e1, e2⟩ := obind (show (stepT s (DL.unb t)).bind (getP P) = some u from e)
    obtain ⟨x, o1, o2, g1, g2, g3, g4⟩ := h.unb.focS sGH e1
    obtain ⟨w, p1, p2, f1, f2, f3, f4⟩ := Rp.foc sGH e2 g2
    refine ⟨w, p1, p2 ++ o2, ⟨x, g1, f1⟩, f2, ?_, fun {G' H' u' o1'} sg k hh => ?_⟩
    · rw [← List.append_assoc]; exact g3.trans (List.Perm.append_right _ f3)
    · obtain ⟨o', q1, q2⟩ := f4 sg (fun b hb => k b (by simp [hb])) hh
      obtain ⟨o'', q3, q4⟩ := g4 sg (fun b hb => k b (by simp [hb])) q1
      refine ⟨o'', ?_, ?_⟩
      · show Rp K G' H' (match stepT s (DL.unb t) with | some c => DL.reb t (setS s (DL.unb t) (setP P c u')) | none => t) v o''
        rw [e1]
        exact h.reb q3
      · rw [← List.append_assoc]; exact q4.trans (List.Perm.append_right _ q2)
theorem OkS.wr {G0 H0 : Hp} {W : List (T × V)} {ts es : List T} {vs ws : List V} {env : Env} {σ : St} {i : Nat} {P : List Stp} {t u : T} {v w : V} (S : OkS K G0 H0 W H (es ++ ts) (ws ++ vs) env σ) (hw : ws.length = es.length) (he : env[i]? = some (some t)) (hp : getP P t = some u)
    (hv : σ[i]? = some (some v)) (hc : Ch H P v w) : ∃ (G : Hp) (o1 o2 : List Addr), Rp K G H u w o1 ∧ RpTs K G H es ws o2 ∧ (o1 ++ o2).Nodup ∧ Same G H ∧ (∀ b ∈ o1 ++ o2, G b = none ∧ H0 b = none) ∧
    ∀ (a : Addr) (cell : HO) (u' : T) (es' : List T) (ws' : List V) (o3 o4 rest : List Addr), a ∈ o1 → Rp K G (upd H a cell) u' w o3 → RpTs K G (upd H a cell) es' ws' o4 → (o1 ++ o2).Perm (o3 ++ o4 ++ rest) → OkS K G0 H0 [] (upd H a cell) (es' ++ ts) (ws' ++ vs) (env.set i (some (setP P t u'))) σ := by
  obtain ⟨G, ot, oe, s⟩ := S
  obtain ⟨o2, o5, k1, k2, k3⟩ := s.tmp.split hw
  obtain ⟨v', oA, oB, e1, e2, e3, e4⟩ := s.env.take he
  rw [hv] at e1
  cases e1
  obtain ⟨w', o1, o6, f1, f2, f3, f4⟩ := e2.foc s.gh hp
  have := f1.det hc
  subst this
  have pm : (ot ++ oe).Perm ((o1 ++ o2) ++ (o6 ++ (o5 ++ oB))) := by
    rw [k3]
    have q1 : ((o2 ++ o5) ++ oe).Perm ((o2 ++ o5) ++ ((o1 ++ o6) ++ oB)) := List.Perm.append_left _ (e4.trans (List.Perm.append_right _ f3))
    refine q1.trans ?_
    have q2 : ((o2 ++ o5) ++ ((o1 ++ o6) ++ oB)).Perm (o1 ++ ((o2 ++ o5) ++ (o6 ++ oB))) := by
      rw [List.append_assoc o1]
      exact perm_mid _ _ _
    refine q2.trans ?_
    rw [List.append_assoc o1, List.append_assoc o2]
    exact List.Perm.append_left _ (List.Perm.append_left _ (perm_mid _ _ _))
  have nd := pm.nodup_iff.mp s.nd
  have fr : ∀ b ∈ (o1 ++ o2) ++ (o6 ++ (o5 ++ oB)), G b = none ∧ H0 b = none := fun b hb => s.fr b (pm.mem_iff.mpr hb)
  refine ⟨G, o1, o2, f2, k1, (List.nodup_append.mp nd).1, s.gh, fun b hb => fr b (List.mem_append_left _ hb), fun a cell u' es' ws' o3 o4 rest ha r1 r2 pm2 => ?_⟩
  have ha' : a ∈ o1 ++ o2 := List.mem_append_left _ ha
  have nea : ∀ b ∈ o6 ++ (o5 ++ oB), b ≠ a := fun b hb e => (List.nodup_append.mp nd).2.2 a ha' b hb e.symm
  have kp : ∀ b ∈ o6 ++ (o5 ++ oB), upd H a cell b = H b := fun b hb => upd_ne (nea b hb)
  obtain ⟨o7, q1, q2⟩ := f4 (Same.refl G) (fun b hb => kp b (by simp [hb])) r1
  have e3' := e3.mono (Same.refl G) _ (fun b hb => kp b (by simp [hb]))
  have hl : i < env.length := (List.getElem?_eq_some_iff.mp he).1
  obtain ⟨o8, g1, g2⟩ := e3'.put (i := i) (by simpa using hl) (fun x z => by rw [List.getElem?_set_self hl] at z; cases z) q1
  rw [List.set_set, set_back hv] at g1
  have t2 := k2.mono (Same.refl G) _ (fun b hb => kp b (by simp [hb]))
  have pm3 : ((o1 ++ o2) ++ (o6 ++ (o5 ++ oB))).Perm (((o4 ++ o5) ++ o8) ++ rest) := by
    refine (List.Perm.append_right _ pm2).trans ?_
    have a1 : o8.Perm (o3 ++ (o6 ++ oB)) := g2.trans (by rw [← List.append_assoc]; exact List.Perm.append_right _ q2)
    have a2 : (((o4 ++ o5) ++ o8) ++ rest).Perm (((o4 ++ o5) ++ (o3 ++ (o6 ++ oB))) ++ rest) := List.Perm.append_right _ (List.Perm.append_left _ a1)
    refine List.Perm.trans ?_ a2.symm
    have cnt : ∀ x, List.count x (o3 ++ o4 ++ rest ++ (o6 ++ (o5 ++ oB))) = List.count x (o4 ++ o5 ++ (o3 ++ (o6 ++ oB)) ++ rest) := fun x => by
      simp only [List.count_append]; omega
    exact List.perm_iff_count.mpr cnt
  have nd2 := pm3.nodup_iff.mp nd
  have sub : ∀ b ∈ (o4 ++ o5) ++ o8, b ∈ (o1 ++ o2) ++ (o6 ++ (o5 ++ oB)) := fun b hb => pm3.mem_iff.mpr (List.mem_append_left _ hb)
  refine ⟨G, o4 ++ o5, o8, r2.append t2, g1, (List.nodup_append.mp nd2).1, fun b hb => fr b (sub b hb), s.g0, fun b x e => ?_, fun b x e => ?_, s.nw, fun q hq => by cases hq⟩
  · have : b ≠ a := fun z => by subst z; rw [(fr b (List.mem_append_left _ ha')).1] at e; cases e
    rw [upd_ne this]; exact s.gh b x e
  · have : b ≠ a := fun z => by subst z; rw [(fr b (List.mem_append_left _ ha')).2] at e; cases e
    rw [upd_ne this]; exact s.h0 b x e
theorem OkS.at' {G0 H0 : Hp} {W : List (T × V)} {ts : List T} {vs : List V} {env : Env} {σ : St} {i : Nat} {P : List Stp} {t u : T} {v w : V} (S : OkS K G0 H0 W H ts vs env σ) (he : env[i]? = some (some t)) (hp : getP P t = some u)
    (hv : σ[i]? = some (some v)) (hc : Ch H P v w) : ∃ (G : Hp) (o1 : List Addr), Rp K G H u w o1 ∧ Same G H := by
  obtain ⟨G, o1, o2, h1, _, _, h2, _⟩ := OkS.wr (es := []) (ws := []) S rfl he hp hv hc
  exact ⟨G, o1, h1, h2⟩
end
abbrev PF := Env → Option (List Stp × Env)
def EvP (K : KW) (te : TE) (i : Nat) (f : PF) : Prop := ∀ (G0 H0 : Hp) (W : List (T × V)) (H : Hp) (ts : List T) (vs : List V) (env : Env) (σ : St) (P : List Stp) (env' : Env), OkS K G0 H0 W H ts vs env σ → f env = some (P, env') →
  ∀ Q : VK, (∀ v w H', Same H H' → OkS K G0 H0 W H' ts vs env' σ → σ[i]? = some (some v) → Ch H' P v w → Q w H') → te σ H Q
structure DP (X : Cx) (e : Expr) (te : TE) (i : Nat) (f : PF) : Prop where
  pe : PE X e te
  ok : EvP X.kw te i f
def atP (env : Env) (i : Nat) (P : List Stp) : Option T := match env[i]? with
  | some (some t) => getP P t
  | _ => none
theorem atP_eq {env : Env} {i : Nat} {P : List Stp} {u : T} (h : atP env i P = some u) : ∃ t, env[i]? = some (some t) ∧ getP P t = some u := by
  unfold atP at h
  split at h
  · rename_i t e; exact ⟨t, e, h⟩
  · cases h
def putP (env : Env) (i : Nat) (P : List Stp) (u : T) : Env := match env[i]? with
  | some (some t) => env.set i (some (setP P t u))
  | _ => env
theorem putP_eq {env : Env} {i : Nat} {P : List Stp} {t u : T} (h : env[i]? = some (some t)) : putP env i P u = env.set i (some (setP P t u)) := by
  unfold putP; rw [h]
def pNm (i : Nat) : PF := fun env => match env[i]? with
  | some (some _) => some ([], env)
  | _ => none
section
variable {X : Cx} {e o k : Expr} {te to tk : TE} {f fk : EF} {fo : PF} {i : Nat} {pos : Pos}
theorem dp_name (i : Nat) {x : Str} (hN : X.N[i]? = some x := by rfl) (hv : Vis X.env.scope x := by first | exact Or.inl rfl | exact Or.inr (Or.inl rfl) | exact Or.inr (Or.inr rfl)) (hd : (x == ("__debug__" : Str)) = false := by decide)
    (hcd : (x == ("__classdict__" : Str)) = false := by decide) : DP X (.Name x pos) (tVar i) i (pNm i) := by
  refine ⟨pe_var hN hv hd hcd, ?_⟩
  intro G0 H0 W H ts vs env σ P env' S g Q q
  unfold pNm at g
  split at g
  · rename_i t e
    cases g
    obtain ⟨v, hv1, S1⟩ := S.look e
    exact ⟨v, hv1, q v v H (Same.refl _) S hv1 rfl⟩
  · cases g
def Att (K : PySem.W.Frag) (n f : Str) : Prop := ∀ C, ClsN K n C → Cls K C ∧ NoAttr K C f
def pKey (i : Nat) (fo : PF) (fk : EF) : PF := fun env => (fo env).bind fun r => (fk r.2).bind fun s => (keyT s.1).bind fun k => (atP s.2 i r.1).bind fun t => match unb t with
  | .dic kvs => (valT kvs k).map fun _ => (r.1 ++ [.key k], s.2)
  | _ => none
theorem dp_key (hu : X.A.units + 1 < cLine) (h : DP X o to i fo) (hk : DT X k tk fk) (hs : NoSl k := by exact fun _ _ => rfl) : DP X (.Subscript o k pos) (tDGet to tk) i (pKey i fo fk) := by
  refine ⟨pe_dget hu h.pe hk.pe hs, ?_⟩
  intro G0 H0 W H ts vs env σ P env' S g Q q
  obtain ⟨⟨P1, e1⟩, g1, g2⟩ := obind g
  obtain ⟨⟨z, e2⟩, g3, g4⟩ := obind g2
  obtain ⟨kk, g5, g6⟩ := obind g4
  obtain ⟨t, g7, g8⟩ := obind g6
  obtain ⟨t0, g9, g10⟩ := atP_eq g7
  dsimp only at g8
  split at g8
  · rename_i kvs hun
    obtain ⟨u, g11, g12⟩ := omap g8
    cases g12
    cases z with
    | p kd =>
      refine h.ok _ _ _ _ _ _ _ _ _ _ S g1 _ fun v w H1 s1 S1 hv hc => ?_
      refine hk.ok _ _ _ _ _ _ _ _ _ _ S1 g3 _ fun y H2 s2 S2 => ?_
      have ey : y = L2.kV kk := keyD_rp (show keyD kd = some kk from g5) S2.top
      have hc2 := hc.same s2
      obtain ⟨G, o1, r, sG⟩ := S2.pop.at' g9 g10 hv hc2
      have r := r.unb
      rw [hun] at r
      obtain ⟨a, ws, o', h1, h2, h3, h4⟩ := r
      obtain ⟨x, p1, p2, k1, _⟩ := h3.foc g11
      exact ⟨a, x, h1, by rw [ey, ← k1]; exact DGet.k h2, q v x H2 (s1.trans s2) S2.pop hv (hc2.app ⟨a, ws, h1, h2, k1⟩)⟩
    | _ => cases g5
  · cases g8
def pIx (i : Nat) (fo : PF) (fk : EF) : PF := fun env => (fo env).bind fun r => (fk r.2).bind fun s => match s.1 with
  | .p (.int z) => (atP s.2 i r.1).bind fun t => match unb t with
    | .lst ts => (ixN ts.length z).bind fun j => (ts[j]?).map fun _ => (r.1 ++ [.ix j], s.2)
    | .tup ts => (ixN ts.length z).bind fun j => (ts[j]?).map fun _ => (r.1 ++ [.it j], s.2)
    | _ => none
  | _ => none
theorem dp_ix (h : DP X o to i fo) (hk : DT X k tk fk) (hs : PlainIx k := by exact fun _ _ => rfl) : DP X (.Subscript o k pos) (tOp (rIx X.K) to tk) i (pIx i fo fk) := by
  refine ⟨pe_ix ix_seq h.pe hk.pe hs, ?_⟩
  intro G0 H0 W H ts vs env σ P env' S g Q q
  obtain ⟨⟨P1, e1⟩, g1, g2⟩ := obind g
  obtain ⟨⟨z, e2⟩, g3, g4⟩ := obind g2
  dsimp only at g4
  split at g4
  · rename_i zi
    obtain ⟨t, g7, g8⟩ := obind g4
    obtain ⟨t0, g9, g10⟩ := atP_eq g7
    refine h.ok _ _ _ _ _ _ _ _ _ _ S g1 _ fun v w H1 s1 S1 hv hc => ?_
    refine hk.ok _ _ _ _ _ _ _ _ _ _ S1 g3 _ fun y H2 s2 S2 => ?_
    have ey : y = .int zi := S2.top
    subst ey
    have hc2 := hc.same s2
    obtain ⟨G, o1, r, sG⟩ := S2.pop.at' g9 g10 hv hc2
    have r := r.unb
    split at g8
    · rename_i us hun
      rw [hun] at r
      obtain ⟨j, k1, k2⟩ := obind g8
      obtain ⟨u, k3, k4⟩ := omap k2
      cases k4
      obtain ⟨a, xs, o', h1, h2, h3, h4⟩ := r
      obtain ⟨x, p1, p2, f1, _⟩ := h3.foc k3
      exact .inl ⟨a, xs, zi, x, h1, rfl, .inl (.inl h2), atI_of k1 h3.len f1, q v x H2 (s1.trans s2) S2.pop hv (hc2.app ⟨a, xs, h1, h2, f1⟩)⟩
    · rename_i us hun
      rw [hun] at r
      obtain ⟨j, k1, k2⟩ := obind g8
      obtain ⟨u, k3, k4⟩ := omap k2
      cases k4
      obtain ⟨a, xs, h1, h2, h3⟩ := r
      obtain ⟨x, p1, p2, f1, _⟩ := h3.foc k3
      exact .inr (.inl ⟨a, xs, zi, x, h1, rfl, tup_seq sG h2, atI_of k1 h3.len f1, q v x H2 (s1.trans s2) S2.pop hv (hc2.app ⟨a, xs, h1, sG _ _ h2, f1⟩)⟩)
    · cases g8
  · cases g4
end
end DL
namespace DL
open PySem PySem.Spec PyProof.Rows L2
section
variable {K : KW} {G0 H0 H : Hp} {W : List (T × V)} {ts : List T} {vs : List V} {env : Env} {σ : St}
end
theorem RpKf.foc {K : KW} {G : Hp} : ∀ {fs : List (Str × D)} {ws : List (Str × V)} {f : Str} {kv : Str × D}, RpKf K G fs ws → (fs.find? fun kv => decide (kv.1 = f)) = some kv → ∃ w, ws.lookup f = some w ∧ RpD K G kv.2 w
  | [], _, _, _, _, e => by simp at e
  | (j, d) :: fs, _, f, kv, ⟨v, r, h1, h2, h3⟩, e => by
    subst h1
    by_cases c : j = f
    · rw [List.find?_cons_of_pos (by simpa using c)] at e
      cases e
      exact ⟨v, by rw [lookup_cons, if_pos c], h2⟩
    · rw [List.find?_cons_of_neg (by simpa using c)] at e
      obtain ⟨w, g1, g2⟩ := RpKf.foc h3 e
      exact ⟨w, by rw [lookup_cons, if_neg c]; exact g1, g2⟩
section
variable {X : Cx} {e o k : Expr} {te to tk : TE} {f fk fo : EF} {i : Nat} {pos apos cpos : Pos}
end
end DL
namespace DL
open PySem PySem.Spec PyProof.Rows L2
def putT {κ : Type} [DecidableEq κ] (kvs : List (κ × T)) (k : κ) (t : T) : List (κ × T) := if (kvs.any fun kv => decide (kv.1 = k)) = true then kvs.map (fun kv => if kv.1 = k then (kv.1, t) else kv) else kvs ++ [(k, t)]
def cntT {κ : Type} [DecidableEq κ] (kvs : List (κ × T)) (k : κ) : Nat := (kvs.filter fun kv => decide (kv.1 = k)).length
def isP : T → Bool
  | .p _ => true
  | _ => false
def okPut {κ : Type} [DecidableEq κ] (kvs : List (κ × T)) (k : κ) (t : T) : Bool := isP t || decide (cntT kvs k ≤ 1)
def dropT {κ : Type} [DecidableEq κ] (kvs : List (κ × T)) (k : κ) : List (κ × T) := kvs.filter fun kv => decide (kv.1 ≠ k)
def putFT (fs : List (Str × T)) (f : Str) (t : T) : List (Str × T) := match fs with
  | [] => [(f, t)]
  | (g, x) :: r => if g = f then (g, t) :: r else (g, x) :: putFT r f t
section
variable {K : KW} {G H : Hp}
theorem RpTk.any (k : Key) : ∀ {kvs : List (Key × T)} {xs : List (Key × V)} {o : List Addr}, RpTk K G H kvs xs o → (xs.any fun kv => decide (kv.1 = k)) = kvs.any fun kv => decide (kv.1 = k)
  | [], _, _, h => by rw [h.1]; rfl
  | (j, d) :: r, _, _, ⟨v, r', o1, o2, h1, h2, h3, h4⟩ => by rw [h1, List.any_cons, List.any_cons, RpTk.any k h3]
theorem RpTk.len : ∀ {kvs : List (Key × T)} {xs : List (Key × V)} {o : List Addr}, RpTk K G H kvs xs o → xs.length = kvs.length
  | [], _, _, h => by rw [h.1]; rfl
  | (j, d) :: r, _, _, ⟨v, r', o1, o2, h1, h2, h3, h4⟩ => by rw [h1, List.length_cons, List.length_cons, RpTk.len h3]
theorem RpTk.noKey {k : Key} (f : Key × T → Key × T) (g : Key × V → Key × V) (hf : ∀ kv, kv.1 ≠ k → f kv = kv) (hg : ∀ kv, kv.1 ≠ k → g kv = kv) : ∀ {kvs : List (Key × T)} {xs : List (Key × V)} {o : List Addr}, RpTk K G H kvs xs o → cntT kvs k = 0 → RpTk K G H (kvs.map f) (xs.map g) o
  | [], _, _, h, _ => by rw [h.1, h.2]; exact ⟨rfl, rfl⟩
  | (j, d) :: r, _, _, ⟨v, r', o1, o2, h1, h2, h3, h4⟩, hc => by
    subst h1
    have hj : j ≠ k := fun e => by simp [cntT, e] at hc
    have hc' : cntT r k = 0 := by simpa [cntT, hj] using hc
    rw [List.map_cons, List.map_cons, hf (j, d) hj, hg (j, v) hj]
    exact ⟨v, _, o1, o2, rfl, h2, RpTk.noKey f g hf hg h3 hc', h4⟩
theorem RpTk.put {k : Key} {t : T} {v : V} {o' : List Addr} (ht : Rp K G H t v o') : ∀ {kvs : List (Key × T)} {xs : List (Key × V)} {o : List Addr}, RpTk K G H kvs xs o → okPut kvs k t = true → ∃ o3 rest, RpTk K G H (putT kvs k t) (putK xs k v) o3 ∧ (o ++ o').Perm (o3 ++ rest) := by
  intro kvs xs o h hok
  unfold putT putK
  rw [h.any k]
  by_cases ha : (kvs.any fun kv => decide (kv.1 = k)) = true
  · rw [if_pos ha, if_pos ha]
    unfold okPut at hok
    rw [Bool.or_eq_true] at hok
    rcases hok with hp | hc
    · -- a pure thing
      cases t with
      | p d =>
        have eo : o' = [] := ht.2
        subst eo
        clear ha
        induction kvs generalizing xs o with
        | nil => exact ⟨[], [], by rw [h.1]; exact ⟨rfl, rfl⟩, by rw [h.2]⟩
        | cons kv r ih =>
          obtain ⟨j, x⟩ := kv
          obtain ⟨w, r', o1, o2, h1, h2, h3, h4⟩ := h
          subst h1
          obtain ⟨o3, rest, q1, q2⟩ := ih h3
          rw [List.append_nil] at q2
          by_cases c : j = k
          · refine ⟨o3, o1 ++ rest, ?_, ?_⟩
            · rw [List.map_cons, List.map_cons, if_pos c, if_pos c]
              exact ⟨v, _, [], o3, rfl, ht, q1, rfl⟩
            · rw [h4, List.append_nil]
              exact (List.Perm.append_left o1 q2).trans (perm_mid _ _ _)
          · refine ⟨o1 ++ o3, rest, ?_, ?_⟩
            · rw [List.map_cons, List.map_cons, if_neg c, if_neg c]
              exact ⟨w, _, o1, o3, rfl, h2, q1, rfl⟩
            · rw [h4, List.append_nil, List.append_assoc]
              exact List.Perm.append_left o1 q2
      | _ => cases hp
    · replace hc := of_decide_eq_true hc
      clear ha
      induction kvs generalizing xs o with
      | nil => exact ⟨[], o', by rw [h.1]; exact ⟨rfl, rfl⟩, by rw [h.2]⟩
      | cons kv r ih =>
        obtain ⟨j, x⟩ := kv
        obtain ⟨w, r', o1, o2, h1, h2, h3, h4⟩ := h
        subst h1
        by_cases c : j = k
        · have hc0 : cntT r k = 0 := by simp [cntT, c] at hc ⊢; exact hc
          have q := RpTk.noKey (k := k) (fun kv => if kv.1 = k then (kv.1, t) else kv) (fun kv => if kv.1 = k then (kv.1, v) else kv) (fun kv e => if_neg e) (fun kv e => if_neg e) h3 hc0
          refine ⟨o' ++ o2, o1, ?_, ?_⟩
          · rw [List.map_cons, List.map_cons, if_pos c, if_pos c]
            exact ⟨v, _, o', o2, rfl, ht, q, rfl⟩
          · rw [h4]
            have cnt : ∀ x, List.count x (o1 ++ o2 ++ o') = List.count x (o' ++ o2 ++ o1) := fun x => by simp only [List.count_append]; omega
            exact List.perm_iff_count.mpr cnt
        · have hc0 : cntT r k ≤ 1 := by simpa [cntT, c] using hc
          obtain ⟨o3, rest, q1, q2⟩ := ih h3 hc0
          refine ⟨o1 ++ o3, rest, ?_, ?_⟩
          · rw [List.map_cons, List.map_cons, if_neg c, if_neg c]
            exact ⟨w, _, o1, o3, rfl, h2, q1, rfl⟩
          · rw [h4, List.append_assoc, List.append_assoc]
            exact List.Perm.append_left o1 q2
  · rw [if_neg ha, if_neg ha]
    refine ⟨o ++ o', [], ?_, by simp⟩
    clear hok ha
    induction kvs generalizing xs o with
    | nil => rw [h.1, h.2]; exact ⟨v, [], o', [], rfl, ht, ⟨rfl, rfl⟩, by simp⟩
    | cons kv r ih =>
      obtain ⟨j, x⟩ := kv
      obtain ⟨w, r', o1, o2, h1, h2, h3, h4⟩ := h
      subst h1; subst h4
      rw [List.append_assoc]
      exact ⟨w, _, o1, o2 ++ o', rfl, h2, ih h3, rfl⟩
theorem RpTk.drop (k : Key) : ∀ {kvs : List (Key × T)} {xs : List (Key × V)} {o : List Addr}, RpTk K G H kvs xs o → ∃ o3 rest, RpTk K G H (dropT kvs k) (dropK xs k) o3 ∧ o.Perm (o3 ++ rest)
  | [], _, _, h => ⟨[], [], by rw [h.1]; exact ⟨rfl, rfl⟩, by rw [h.2]; simp⟩
  | (j, t) :: r, _, _, ⟨w, r', o1, o2, h1, h2, h3, h4⟩ => by
    subst h1
    obtain ⟨o3, rest, q1, q2⟩ := RpTk.drop k h3
    unfold dropT dropK at q1 ⊢
    by_cases c : j = k
    · refine ⟨o3, o1 ++ rest, ?_, ?_⟩
      · rw [List.filter_cons_of_neg (by simpa using c), List.filter_cons_of_neg (by simpa using c)]; exact q1
      · rw [h4]; exact (List.Perm.append_left o1 q2).trans (perm_mid _ _ _)
    · refine ⟨o1 ++ o3, rest, ?_, ?_⟩
      · rw [List.filter_cons_of_pos (by simpa using c), List.filter_cons_of_pos (by simpa using c)]
        exact ⟨w, _, o1, o3, rfl, h2, q1, rfl⟩
      · rw [h4, List.append_assoc]; exact List.Perm.append_left o1 q2
theorem RpTk.take (k : Key) : ∀ {kvs : List (Key × T)} {xs : List (Key × V)} {o : List Addr} {t : T}, RpTk K G H kvs xs o → valT kvs k = some t → ∃ w o3 o4 rest, valV xs k = some w ∧ Rp K G H t w o4 ∧ RpTk K G H (dropT kvs k) (dropK xs k) o3 ∧ o.Perm (o3 ++ o4 ++ rest)
  | [], _, _, _, _, e => by simp [valT] at e
  | (j, t) :: r, _, _, u, ⟨w, r', o1, o2, h1, h2, h3, h4⟩, e => by
    subst h1
    by_cases c : j = k
    · rw [valT, if_pos c] at e; cases e
      obtain ⟨o3, rest, q1, q2⟩ := RpTk.drop k h3
      refine ⟨w, o3, o1, rest, valV_pos (by exact c), h2, ?_, ?_⟩
      · unfold dropT dropK at q1 ⊢
        rw [List.filter_cons_of_neg (by simpa using c), List.filter_cons_of_neg (by simpa using c)]; exact q1
      · rw [h4]
        refine (List.Perm.append_left o1 q2).trans ?_
        rw [← List.append_assoc]
        exact List.Perm.append_right _ List.perm_append_comm
    · rw [valT, if_neg c] at e
      obtain ⟨w', o3, o4, rest, f1, f2, f3, f4⟩ := RpTk.take k h3 e
      refine ⟨w', o1 ++ o3, o4, rest, (valV_neg (by exact c)).trans f1, f2, ?_, ?_⟩
      · unfold dropT dropK at f3 ⊢
        rw [List.filter_cons_of_pos (by simpa using c), List.filter_cons_of_pos (by simpa using c)]
        exact ⟨w, _, o1, o3, rfl, h2, f3, rfl⟩
      · rw [h4, List.append_assoc, List.append_assoc]
        exact List.Perm.append_left o1 (by rw [List.append_assoc] at f4; exact f4)
theorem RpTf.put {f : Str} {t : T} {v : V} {o' : List Addr} (ht : Rp K G H t v o') : ∀ {fs : List (Str × T)} {xs : List (Str × V)} {o : List Addr}, RpTf K G H fs xs o → ∃ o3 rest, RpTf K G H (putFT fs f t) (putF f v xs) o3 ∧ (o ++ o').Perm (o3 ++ rest)
  | [], _, _, h => ⟨o', [], by rw [h.1]; exact ⟨v, [], o', [], rfl, ht, ⟨rfl, rfl⟩, by simp⟩, by rw [h.2]; simp⟩
  | (j, x) :: r, _, _, ⟨w, r', o1, o2, h1, h2, h3, h4⟩ => by
    subst h1
    by_cases c : j = f
    · refine ⟨o' ++ o2, o1, ?_, ?_⟩
      · rw [putFT, putF, if_pos c, if_pos c]
        exact ⟨v, _, o', o2, rfl, ht, h3, rfl⟩
      · rw [h4]
        exact List.perm_iff_count.mpr fun x => by simp only [List.count_append]; omega
    · obtain ⟨o3, rest, q1, q2⟩ := RpTf.put ht h3
      refine ⟨o1 ++ o3, rest, ?_, ?_⟩
      · rw [putFT, putF, if_neg c, if_neg c]
        exact ⟨w, _, o1, o3, rfl, h2, q1, rfl⟩
      · rw [h4, List.append_assoc, List.append_assoc]
        exact List.Perm.append_left o1 q2
theorem RpTf.len : ∀ {kvs : List (Str × T)} {xs : List (Str × V)} {o : List Addr}, RpTf K G H kvs xs o → xs.length = kvs.length
  | [], _, _, h => by rw [h.1]; rfl
  | (j, d) :: r, _, _, ⟨v, r', o1, o2, h1, h2, h3, h4⟩ => by rw [h1, List.length_cons, List.length_cons, RpTf.len h3]
end
theorem wN {H : Hp} {a : Addr} {cell : HO} {o : List Addr} (h : a ∉ o) : ∀ b ∈ o, upd H a cell b = H b := fun b hb => upd_ne (fun e => h (e ▸ hb))
section
variable {X : Cx} {e o k : Expr} {te to tk : TE} {f fk : EF} {fo : PF} {i : Nat} {pos cpos apos ipos tpos : Pos}
def sPutP (i : Nat) (fo : PF) (fk f : EF) : SF := fun env => (f env).bind fun r => (fo r.2).bind fun p => (fk p.2).bind fun s => (keyT s.1).bind fun k => (atP s.2 i p.1).bind fun t => match unb t with
  | .dic kvs => if kvs.length < 16000000 ∧ okPut kvs k r.1 = true then some (.nx, putP s.2 i p.1 (reb t (.dic (putT kvs k r.1)))) else none
  | _ => none
theorem ds_putP (hu : X.A.units + 1 < cLine) (ho : DP X o to i fo) (hk : DT X k tk fk) (h : DT X e te f) (hs : swapsWith e (some (.Subscript o k ipos)) pos.line X.env = pure false := by rfl) : DS X (.Assign [.Subscript o k ipos] e pos) (sDPut to tk te) (sPutP i fo fk f) [] := by
  refine ⟨ps_dput hu ho.pe hk.pe h.pe hs, ?_⟩
  intro G0 H0 H ts vs env σ fl env' S g D q
  obtain ⟨⟨y, e1⟩, g1, g2⟩ := obind g
  obtain ⟨⟨P, e2⟩, g3, g4⟩ := obind g2
  obtain ⟨⟨z, e3⟩, g5, g6⟩ := obind g4
  obtain ⟨kk, g7, g8⟩ := obind g6
  obtain ⟨t, g9, g10⟩ := obind g8
  dsimp only at g10
  split at g10
  · rename_i kvs hun
    split at g10
    · rename_i hl
      cases g10
      cases z with
      | p kd =>
        refine h.ok _ _ _ _ _ _ _ _ _ _ S g1 _ fun x H1 s1 S1 => ?_
        refine ho.ok _ _ _ _ _ _ _ _ _ _ S1 g3 _ fun v w H2 s2 S2 hv hc => ?_
        refine hk.ok _ _ _ _ _ _ _ _ _ _ S2 g5 _ fun kx H3 s3 S3 => ?_
        have ek : kx = L2.kV kk := keyD_rp (show keyD kd = some kk from g7) S3.top
        obtain ⟨tt, k3, k4⟩ := atP_eq g9
        obtain ⟨G2, p1, p2, r1, r2, nd, sG2, fr, wr⟩ := OkS.wr (es := [y]) (ws := [x]) S3.pop rfl k3 k4 hv (hc.same s3)
        have ru := r1.unb
        rw [hun] at ru
        obtain ⟨a, xs, o2, h1, h2, h3, h4⟩ := ru
        subst h1; subst h4
        have na : a ∉ o2 ++ p2 := (List.nodup_cons.mp (show (a :: (o2 ++ p2)).Nodup from nd)).1
        refine ⟨a, _, rfl, by rw [ek]; exact DPut.k h2 (by rw [h3.len, sizeLine_eq]; omega), ?_⟩
        obtain ⟨x', r', q1, q2, q3, q4, q5, q6⟩ := r2
        cases q3
        obtain ⟨e7, e8⟩ := q5
        cases e7
        subst e8
        rw [List.append_nil] at q6
        subst q6
        have m1 := h3.mono (Same.refl G2) (H' := upd H3 a (.dK (putK xs kk x))) _ (wN fun hm => na (by simp [hm]))
        have m2 := q4.mono (Same.refl G2) (H' := upd H3 a (.dK (putK xs kk x))) _ (wN fun hm => na (by simp [hm]))
        obtain ⟨o5, rest, f1, f2⟩ := m1.put m2 hl.2
        have S4 := wr a (.dK (putK xs kk x)) (reb t (.dic (putT kvs kk y))) [] [] (a :: o5) [] rest (by simp) (r1.reb ⟨a, _, _, rfl, upd_same, f1, rfl⟩) ⟨rfl, rfl⟩ (by
          simp only [List.cons_append, List.append_nil]
          exact List.Perm.cons a f2)
        rw [← putP_eq k3] at S4
        exact q _ _ S4 .rfl'
      | _ => cases g7
    · cases g10
  · cases g10
end
end DL
namespace DL
open PySem PySem.Spec PyProof.Rows L2
def EvX (K : KW) (te : TE) (f : EF) : Prop := ∀ (G0 H0 H : Hp) (ts : List T) (vs : List V) (env : Env) (σ : St) (t : T) (env' : Env), OkS K G0 H0 [] H ts vs env σ → f env = some (t, env') →
  ∀ Q : VK, (∀ v H', OkS K G0 H0 [] H' (t :: ts) (v :: vs) env' σ → Q v H') → te σ H Q
def EvAX (K : KW) (ta : TA) (f : AF) : Prop := ∀ (G0 H0 H : Hp) (ts : List T) (vs : List V) (env : Env) (σ : St) (us : List T) (env' : Env), OkS K G0 H0 [] H ts vs env σ → f env = some (us, env') →
  ∀ Q : List V → Hp → Prop, (∀ ws H', ws.length = us.length → OkS K G0 H0 [] H' (us ++ ts) (ws ++ vs) env' σ → Q ws H') → ta σ H Q
structure DX (X : Cx) (e : Expr) (te : TE) (f : EF) : Prop where
  pe : PE X e te
  ok : EvX X.kw te f
structure DAX (X : Cx) (es : List Expr) (ta : TA) (f : AF) : Prop where
  pa : PA X es ta
  ok : EvAX X.kw ta f
section
variable {X : Cx} {e a b : Expr} {es : List Expr} {te ta tb : TE} {tr : TA} {f fa fb : EF} {fr : AF} {pos : Pos}
theorem DT.dx (h : DT X e te f) : DX X e te f := ⟨h.pe, fun G0 H0 H ts vs env σ t env' S g Q q => h.ok _ _ _ _ _ _ _ _ _ _ S g Q fun v H' _ S' => q v H' S'⟩
theorem DA.dx (h : DA X es tr fr) : DAX X es tr fr := ⟨h.pa, fun G0 H0 H ts vs env σ t env' S g Q q => h.ok _ _ _ _ _ _ _ _ _ _ S g Q fun v H' _ hl S' => q v H' hl S'⟩
end
section
variable {X : Cx} {e o k x : Expr} {te to tk tx : TE} {f fk fx : EF} {fo : PF} {i : Nat} {pos cpos apos ipos tpos : Pos}
end
section
variable {P : Program} {w : World} {K : KW} {mg : Str → Option Value} {base : Heap}
end
theorem OkS.lend {K : KW} {G0 H0 H : Hp} {ts : List T} {vs ws : List V} {ds : List D} {env : Env} {σ : St} {i : Nat} {P : List Stp} {t u : T} {v w : V} (S : OkS K G0 H0 [] H (ds.map T.p ++ ts) (ws ++ vs) env σ) (hw : ws.length = ds.length) (he : env[i]? = some (some t)) (hp : getP P t = some u)
    (hv : σ[i]? = some (some v)) (hc : Ch H P v w) : ∃ (G : Hp) (o1 : List Addr), Same G H ∧ Rp K G H u w o1 ∧ o1.Nodup ∧ (∀ a ∈ o1, G a = none) ∧ RpDs K G ds ws ∧
    ∀ (r : V) (G' H' : Hp) (p1 p2 : List Addr) (t' u' : T), Same G G' → Same G' H' → (∀ a x, a ∉ o1 → H a = some x → H' a = some x) → Rp K G' H' t' r p1 → Rp K G' H' u' w p2 → (p1 ++ p2).Nodup → (∀ a ∈ p1 ++ p2, G' a = none ∧ (a ∈ o1 ∨ H a = none)) →
      (∀ a x, G' a = some x → G a ≠ none ∨ H a = none ∨ a ∈ o1 ∨ Fix x) → OkS K G0 H0 [] H' (t' :: ts) (r :: vs) (env.set i (some (setP P t u'))) σ := by
  obtain ⟨G, ot, oe, s⟩ := S
  obtain ⟨o2, o5, k1, k2, k3⟩ := s.tmp.split (us := ds.map T.p) (by rw [List.length_map]; exact hw)
  obtain ⟨kd, k4⟩ := rpDs_of k1
  subst k4
  have k3 : ot = o5 := k3
  subst k3
  obtain ⟨v', oA, oB, e1, e2, e3, e4⟩ := s.env.take he
  rw [hv] at e1
  cases e1
  obtain ⟨w', o1, o6, f1, f2, f3, f4⟩ := e2.foc s.gh hp
  have := f1.det hc
  subst this
  have pm : (ot ++ oe).Perm (o1 ++ (o6 ++ (ot ++ oB))) := by
    have q1 : (ot ++ oe).Perm (ot ++ ((o1 ++ o6) ++ oB)) := List.Perm.append_left _ (e4.trans (List.Perm.append_right _ f3))
    refine q1.trans (List.perm_iff_count.mpr fun x => by simp only [List.count_append]; omega)
  have nd := pm.nodup_iff.mp s.nd
  have fr : ∀ b ∈ o1 ++ (o6 ++ (ot ++ oB)), G b = none ∧ H0 b = none := fun b hb => s.fr b (pm.mem_iff.mpr hb)
  have thr : ∀ b ∈ o6 ++ (ot ++ oB), ∃ x, H b = some x ∧ ¬ Fix x := fun b hb => by
    have : b ∈ ot ++ oe := pm.mem_iff.mpr (List.mem_append_right _ hb)
    rcases List.mem_append.mp this with h | h
    · exact s.tmp.there _ b h
    · exact s.env.there _ b h
  refine ⟨G, o1, s.gh, f2, (List.nodup_append.mp nd).1, fun a ha => (fr a (List.mem_append_left _ ha)).1, kd, fun r G' H' p1 p2 t' u' g1 g2 g3 g4 g5 g6 g7 g8 => ?_⟩
  have out : ∀ b ∈ o6 ++ (ot ++ oB), b ∉ o1 := fun b hb h => (List.nodup_append.mp nd).2.2 b h b hb rfl
  have kp : ∀ b ∈ o6 ++ (ot ++ oB), H' b = H b := fun b hb => by
    obtain ⟨x, e, _⟩ := thr b hb
    rw [e, g3 b x (out b hb) e]
  obtain ⟨o7, q1, q2⟩ := f4 g1 (fun b hb => kp b (by simp [hb])) g5
  have e3' := e3.mono g1 _ (fun b hb => kp b (by simp [hb]))
  have hl : i < env.length := (List.getElem?_eq_some_iff.mp he).1
  obtain ⟨o8, h1, h2⟩ := e3'.put (i := i) (by simpa using hl) (fun x z => by rw [List.getElem?_set_self hl] at z; cases z) q1
  rw [List.set_set, set_back hv] at h1
  have t2 := k2.mono g1 _ (fun b hb => kp b (by simp [hb]))
  have pm8 : o8.Perm (p2 ++ (o6 ++ oB)) := h2.trans (by rw [← List.append_assoc]; exact List.Perm.append_right _ q2)
  have pmN : ((p1 ++ ot) ++ o8).Perm ((p1 ++ p2) ++ (o6 ++ (ot ++ oB))) := (List.Perm.append_left _ pm8).trans (List.perm_iff_count.mpr fun x => by simp only [List.count_append]; omega)
  refine ⟨G', p1 ++ ot, o8, ⟨r, vs, p1, ot, rfl, g4, t2, rfl⟩, h1, pmN.nodup_iff.mpr ?_, fun a ha => ?_, s.g0.trans g1, g2, fun a x e => ?_, fun a x e => ?_, fun q hq => by cases hq⟩
  · refine List.nodup_append.mpr ⟨g6, (List.nodup_append.mp nd).2.1, fun a ha b hb e => ?_⟩
    subst e
    rcases (g7 a ha).2 with c | c
    · exact out a hb c
    · obtain ⟨x, ex, _⟩ := thr a hb
      rw [c] at ex; cases ex
  · rcases List.mem_append.mp (pmN.mem_iff.mp ha) with ha | ha
    · obtain ⟨c1, c2⟩ := g7 a ha
      refine ⟨c1, ?_⟩
      rcases c2 with c2 | c2
      · exact (fr a (List.mem_append_left _ c2)).2
      · exact Same.none s.h0 c2
    · refine ⟨?_, (fr a (List.mem_append_right _ ha)).2⟩
      cases q : G' a with
      | none => rfl
      | some x =>
        obtain ⟨x', ex, ne⟩ := thr a ha
        rcases g8 a x q with z | z | z | z
        · exact absurd (fr a (List.mem_append_right _ ha)).1 z
        · rw [z] at ex; cases ex
        · exact absurd z (out a ha)
        · have := g2 a x q
          rw [g3 a x' (out a ha) ex] at this
          cases this
          exact absurd z ne
  · have na : a ∉ o1 := fun h => by rw [(fr a (List.mem_append_left _ h)).2] at e; cases e
    exact g3 a x na (s.h0 a x e)
  · rcases g8 a x e with z | z | z | z
    · cases q : G a with
      | none => exact absurd q z
      | some y =>
        have := g1 a y q
        rw [e] at this; cases this
        exact s.nw a x q
    · exact .inr (.inl (Same.none s.h0 z))
    · exact .inr (.inl (fr a (List.mem_append_left _ z)).2)
    · exact .inr (.inr z)
section
variable {X : Cx} {k : Nat} {f C : Addr} {fd : FuncData} {ps : List Str} {n : Nat} {φ : T → List D → Option (T × T)} {x m : Str} {p pos apos : Pos} {e o : Expr} {es : List Expr} {to : TE} {fo : PF} {i : Nat} {ta : TA} {fa : AF}
end
end DL
namespace DL
open PySem PySem.Spec PyProof.Rows L2
section
variable {X : Cx} {elt tg iter : Expr} {ifs : List Expr} {scope : Scope} {own : List (Str × Nat)} {pos spos py : Pos} {wi : TI} {fi : IF} {g : Shared → Hp → Addr → List (Str × Addr) → List Addr → TG} {G : GF} {sl : List Nat} {tt : Shared → Hp → Addr → List (Str × Addr) → List Addr → TT} {ct : CF} {te : Shared → Hp → Addr → List (Str × Addr) → List Addr → TE} {fe : EF} {i : Nat} {y : Str}
end
section
variable {X : Cx} {e o k : Expr} {te to tk : TE} {f fk : EF} {fo : PF} {i : Nat} {pos ipos tpos : Pos}
end
end DL
namespace DB
open PySem PySem.Spec PyProof.Rows L2
theorem vals_keys : ∀ {kvs : List (Key × V)} {vs : List (Key × Value)} {its : List Value}, KV kvs vs → its.length = vs.length → (∀ (j : Nat) (v : Value), its[j]? = some v → ∃ (k : Key) (x : Value), vs[j]? = some (k, x) ∧ keyIs k v = true) → Vals (kvs.map fun kv => L2.kV kv.1) its
  | [], _, its, .nil, hl, _ => by
    cases its with
    | nil => exact .nil
    | cons _ _ => simp at hl
  | (k, y) :: kvs, _, its, .cons h t, hl, hp => by
    cases its with
    | nil => simp at hl
    | cons v its =>
      rename_i q vs
      obtain ⟨k', x, e1, e2⟩ := hp 0 v rfl
      have e1 : q = (k', x) := Option.some.inj e1
      subst e1
      refine .cons ?_ (vals_keys t (by simpa using hl) fun j u e => hp (j + 1) u (by simpa using e))
      show RelV (L2.kV k) v
      rw [show k = k' from h.1]
      exact relV_key e2
theorem dict_at {X : Cx} {pins : List (Addr × Obj)} {σ : L2.St} {H : Hp} {s : Shared} {a : Addr} {kvs : List (Key × V)} (I : Inv X pins σ H s) (h : Rd H a (.dK kvs)) : ∃ vs, kvs.length ≤ sizeLine ∧ (a == sysModules) = false ∧ KV kvs vs ∧ s.heap.DictOf (mixKind X.prog X.w) a vs := by
  rcases h with h | ⟨o, h⟩
  · obtain ⟨h1, h2, vs, h3, h4⟩ := I.hok a _ h
    exact ⟨vs, h1, h2, h3, h4⟩
  · obtain ⟨_, ⟨h1, h2, vs, h3, h4⟩⟩ := I.hok a _ h
    exact ⟨vs, h1, h2, h3, h4⟩
theorem call_listD {X : Cx} (hc : X.calm = true) : CallR X (.type "list") (fun xs H Q => ∃ (a : Addr) (kvs : List (Key × V)), xs = [.ref a] ∧ Rd H a (.dK kvs) ∧ ∀ p, H p = none → Q (.ref p) (upd H p (.lst (kvs.map fun kv => L2.kV kv.1)))) := by
  intro pins s σ H xs us Q I r q
  obtain ⟨a, kvs, rfl, hd, q⟩ := q
  obtain ⟨u, rfl, rx⟩ := vals1 r
  cases rx
  obtain ⟨vs, hz, h0, kv, hdo⟩ := dict_at I hd
  obtain ⟨ep, hat⟩ := hdo.dictAt
  have ln : kvs.length = vs.length := Paired.length kv
  refine PySem.W.kdl_call (PySem.W.kdl_dict (knd := mixKind X.prog X.w) (kvs := vs) (ep := ep) h0) (I.ok.hd hc) hat (by omega) fun h' tk acc c kp hS hI => ?_
  have vl : Vals (kvs.map fun kv => L2.kV kv.1) acc.toList := vals_keys kv (by rw [Array.length_toList]; exact hI.1) fun j v e => hI.2 j v (by rw [← Array.getElem?_toList]; exact e)
  exact ⟨.ref s.heap.objs.size, _, I.laid (t' := tk) kp (Nat.le_refl _) (show ObjOk X.prog X.w _ h' _ (.lst (kvs.map fun kv => L2.kV kv.1)) from ⟨by rw [List.length_map]; exact hz, acc.toList, c, vl, by rw [Array.toArray_toList]; exact hS⟩), rfl, q _ (I.hok.fresh (Nat.le_refl _))⟩
end DB
namespace DL
open PySem PySem.Spec PyProof.Rows L2
def kD : Key → D
  | .inl i => .int i
  | .inr s => .str s
theorem kD_rp {K : KW} {G : Hp} (k : Key) : RpD K G (kD k) (L2.kV k) := by
  cases k with
  | inl i => exact rfl
  | inr s => exact rfl
theorem kD_rps {K : KW} {G : Hp} : ∀ ks : List Key, RpDs K G (ks.map kD) (ks.map L2.kV)
  | [] => rfl
  | k :: ks => ⟨_, _, rfl, kD_rp k, kD_rps ks⟩
def keysT : T → Option (List Key)
  | .dic kvs => some (kvs.map (·.1))
  | .p (.dic kvs) => some (kvs.map (·.1))
  | _ => none
theorem RpTk.keys {K : KW} {G H : Hp} : ∀ {kvs : List (Key × T)} {xs : List (Key × V)} {o : List Addr}, RpTk K G H kvs xs o → xs.map (·.1) = kvs.map (·.1)
  | [], _, _, h => by rw [h.1]; rfl
  | (j, d) :: r, _, _, ⟨v, r', o1, o2, h1, h2, h3, h4⟩ => by rw [h1, List.map_cons, List.map_cons, RpTk.keys h3]
theorem RpKs.keys {K : KW} {G : Hp} : ∀ {kvs : List (Key × D)} {xs : List (Key × V)}, RpKs K G kvs xs → xs.map (·.1) = kvs.map (·.1)
  | [], _, h => by rw [show _ = _ from h]; rfl
  | (j, d) :: r, _, ⟨v, r', h1, h2, h3⟩ => by rw [h1, List.map_cons, List.map_cons, RpKs.keys h3]
section
variable {K : KW} {G0 H0 H : Hp} {W : List (T × V)} {ts : List T} {vs : List V} {env : Env} {σ : St} {t : T} {v : V}
theorem OkS.keys {ks : List Key} (S : OkS K G0 H0 ((t, v) :: W) H ts vs env σ) (h : keysT (unb t) = some ks) : ∃ a xs, v = .ref a ∧ Rd H a (.dK xs) ∧ xs.map (·.1) = ks := by
  obtain ⟨G, ot, oe, s⟩ := S
  obtain ⟨o, r⟩ : ∃ o, Rp K G H t v o := s.vw (t, v) (by simp)
  have r := r.unb
  cases hu : unb t with
  | dic kvs =>
    rw [hu] at h r
    cases h
    obtain ⟨a, xs, o', h1, h2, h3, h4⟩ := r
    exact ⟨a, xs, h1, .inl h2, h3.keys⟩
  | p d =>
    rw [hu] at h r
    cases d with
    | dic kvs =>
      cases h
      obtain ⟨⟨a, xs, h1, h2, h3⟩, _⟩ := r
      exact ⟨a, xs, h1, Same.rd s.gh h2, h3.keys⟩
    | _ => cases h
  | _ => rw [hu] at h; cases h
theorem OkS.viewDs {ds : List D} {xs : List V} (S : OkS K G0 H0 W H ts vs env σ) (h : ∀ G ot oe, St0 K G0 H0 W G H ts vs env σ ot oe → RpDs K G ds xs) : OkS K G0 H0 W H (ds.map T.p ++ ts) (xs ++ vs) env σ := by
  obtain ⟨G, ot, oe, s⟩ := S
  exact OkS.pushD s (h G ot oe s)
end
section
variable {X : Cx} {e : Expr} {te : TE} {f : EF} {p pos apos cpos : Pos}
def eKeysL (f : EF) : EF := fun env => (f env).bind fun r => (keysT (unb r.1)).map fun ks => (.lst ((ks.map kD).map T.p), r.2)
theorem dt_listD (hc : X.calm = true) (hg : Gl X "list") (hm : X.mg "list" = none) (h : DV X e te f) (hv : bootBuiltins "list" = some (.type "list") := by decide +kernel) (hs : starEach [e] X.env = (false, eval e X.env) :: starEach [] X.env := by rfl) :
    DT X (.Call (.Name "list" p) [e] [] pos) (tCB (fun xs H Q => ∃ (a : Addr) (kvs : List (Key × V)), xs = [.ref a] ∧ Rd H a (.dK kvs) ∧ ∀ p, H p = none → Q (.ref p) (upd H p (.lst (kvs.map fun kv => L2.kV kv.1)))) (tCons te tNil)) (eKeysL f) := by
  refine ⟨pe_callTy (DB.call_listD hc) hg hm hv (pa_cons h.pe pa_nil hs) (by decide) (by decide) hs, ?_⟩
  intro G0 H0 W H ts vs env σ t env' S e Q q
  obtain ⟨⟨u, e1⟩, h1, h2⟩ := obind e
  obtain ⟨ks, h3, h4⟩ := omap h2
  cases h4
  refine h.ok _ _ _ _ _ _ _ _ _ _ S h1 _ fun v H1 s1 S1 => ?_
  obtain ⟨a, xs, k1, k2, k3⟩ := S1.keys h3
  refine ⟨a, xs, by rw [k1], k2, fun l hl => ?_⟩
  have hx : (xs.map fun kv => L2.kV kv.1) = ks.map L2.kV := by rw [← k3, List.map_map]; rfl
  rw [hx]
  have S2 := S1.unview.viewDs (ds := ks.map kD) (xs := ks.map L2.kV) fun G ot oe s => kD_rps ks
  exact q _ _ (s1.trans (same_upd hl)) (S2.newL (by simp) hl)
end
end DL
namespace DL
open PySem PySem.Spec PyProof.Rows L2
def Plain (u : HO) : Prop := ∀ o x, u ≠ .frz o x
structure SwR (G G' : Hp) : Prop where
  rd : ∀ a u, Plain u → Rd G a u → Rd G' a u
  ins : ∀ a C dx fs, G a = some (.ins C dx fs) → G' a = some (.ins C dx fs)
  tup : ∀ a xs, G a = some (.tup xs) → G' a = some (.tup xs)
  tux : ∀ a o xs, G a = some (.frz o (.tup xs)) → G' a = some (.frz o (.tup xs))
section
variable {K : KW} {G G' H H' : Hp}
end
def lk (G : Hp) (d : Addr) (u : HO) : Hp := fun a => if a = d then (match G d with | some _ => some u | none => none) else G a
theorem lk_ne {G : Hp} {d a : Addr} {u : HO} (h : a ≠ d) : lk G d u a = G a := if_neg h
theorem lk_at {G : Hp} {d : Addr} {u x : HO} (h : G d = some x) : lk G d u d = some u := by unfold lk; rw [if_pos rfl, h]
theorem SwR.lk {G : Hp} {d : Addr} {x u : HO} (gd : G d = some x) (hxu : ∀ y, Plain y → (x = y ∨ ∃ o, x = .frz o y) → (u = y ∨ ∃ o, u = .frz o y)) (hi : ∀ C dx fs, x ≠ .ins C dx fs) (hxt : ∀ xs, x ≠ .tup xs) (hxf : ∀ o xs, x ≠ .frz o (.tup xs) := by intro _ _ h; cases h) : SwR G (lk G d u) := ⟨fun a y hp h => by
    by_cases c : a = d
    · subst c
      have : x = y ∨ ∃ o, x = .frz o y := by
        rcases h with h | ⟨o, h⟩
        · rw [gd] at h; exact .inl (Option.some.inj h)
        · rw [gd] at h; exact .inr ⟨o, Option.some.inj h⟩
      rcases hxu y hp this with q | ⟨o, q⟩
      · exact .inl (by rw [lk_at gd, q])
      · exact .inr ⟨o, by rw [lk_at gd, q]⟩
    · rcases h with h | ⟨o, h⟩
      · exact .inl (by rw [lk_ne c]; exact h)
      · exact .inr ⟨o, by rw [lk_ne c]; exact h⟩, fun a C dx fs h => by
    have : a ≠ d := fun z => by subst z; rw [gd] at h; exact hi _ _ _ (Option.some.inj h)
    rw [lk_ne this]; exact h, fun a xs h => by
    have : a ≠ d := fun z => by subst z; rw [gd] at h; exact hxt _ (Option.some.inj h)
    rw [lk_ne this]; exact h, fun a o xs h => by
    have : a ≠ d := fun z => by subst z; rw [gd] at h; exact hxf _ _ (Option.some.inj h)
    rw [lk_ne this]; exact h⟩
section
variable {K : KW} {G0 H0 G1 H H1 : Hp} {ts : List T} {vs : List V} {σ : St}
end
structure ItD (K : KW) (it : Addr → Obj → List (Key × V) → It) (mk : Key × D → D) : Prop where
  ok : ∀ {G : Hp} {a : Addr} {o : Obj} {kvs : List (Key × D)} {xs : List (Key × V)}, G a = some (.frz o (.dK xs)) → RpKs K G kvs xs → ItOk K G (it a o xs) (kvs.map mk)
theorem RpKs.get {K : KW} {G : Hp} : ∀ {kvs : List (Key × D)} {xs : List (Key × V)}, RpKs K G kvs xs → ∀ (i : Nat) (k : Key) (d : D), kvs[i]? = some (k, d) → ∃ v, xs[i]? = some (k, v) ∧ RpD K G d v
  | [], _, _, i, _, _, e => by simp at e
  | (k, d) :: kvs, _, ⟨v, r, h1, h2, h3⟩, 0, _, _, e => by
    simp at e; obtain ⟨rfl, rfl⟩ := e; subst h1; exact ⟨v, rfl, h2⟩
  | (k, d) :: kvs, _, ⟨v, r, h1, h2, h3⟩, i + 1, k', d', e => by
    subst h1
    obtain ⟨v', f1, f2⟩ := RpKs.get h3 i k' d' (by simpa using e)
    exact ⟨v', by simpa using f1, f2⟩
theorem RpKs.len {K : KW} {G : Hp} {kvs : List (Key × D)} {xs : List (Key × V)} (h : RpKs K G kvs xs) : xs.length = kvs.length := by
  have := congrArg List.length h.keys
  simpa using this
theorem Post.imp {K : KW} {G0 H0 G0' H0' : Hp} {ts : List T} {vs : List V} {D D' : Ends} {fl : Fl} {env' : Env} {sl : List Nat} {σ : St} (q : Post K G0 H0 ts vs D fl env' sl σ)
    (h : ∀ (ts' : List T) (vs' : List V) H' σ', OkS K G0' H0' [] H' ts' vs' env' σ' → ∃ H'', OkS K G0 H0 [] H'' ts' vs' env' σ' ∧ (D.nx σ' H'' → D'.nx σ' H') ∧ (D.bk σ' H'' → D'.bk σ' H') ∧ (D.ct σ' H'' → D'.ct σ' H') ∧ (∀ v, D.rt v H'' → D'.rt v H')) : Post K G0' H0' ts vs D' fl env' sl σ := by
  cases fl with
  | nx => intro H' σ' S f; obtain ⟨H'', S', a, b, c, d⟩ := h _ _ _ _ S; exact a (q H'' σ' S' f)
  | bk => intro H' σ' S f; obtain ⟨H'', S', a, b, c, d⟩ := h _ _ _ _ S; exact b (q H'' σ' S' f)
  | ct => intro H' σ' S f; obtain ⟨H'', S', a, b, c, d⟩ := h _ _ _ _ S; exact c (q H'' σ' S' f)
  | rt t => intro v H' σ' S f; obtain ⟨H'', S', a, b, c, d⟩ := h _ _ _ _ S; exact d v (q v H'' σ' S' f)
section
variable {X : Cx} {tg : Expr} {body : List Stmt} {g : TG} {G : GF} {tb : TS} {F : SF} {pos npos apos cpos tpos : Pos} {sl sl2 : List Nat} {x : Str}
end
end DL
namespace DL
open PySem PySem.Spec PyProof.Rows L2
section
variable {X : Cx} {e o k : Expr} {te to tk : TE} {f fk : EF} {fo : PF} {i : Nat} {pos cpos apos ipos tpos : Pos}
def sExtP (i : Nat) (fo : PF) (f : EF) : SF := fun env => (fo env).bind fun r => (atP r.2 i r.1).bind fun t0 => match unb t0 with
  | .lst _ => (f r.2).bind fun s => match s.1 with
    | .lst us2 => (atP s.2 i r.1).bind fun t => match unb t with
      | .lst us => if us.length + us2.length < 16000000 then some (.nx, putP s.2 i r.1 (reb t (.lst (us ++ us2)))) else none
      | _ => none
    | _ => none
  | _ => none
theorem ds_extP (ho : DP X o to i fo) (h : DT X e te f) (hb : attributeBase o "extend" X.env (eval o X.env) = eval o X.env := by rfl)
    (hse : starEach [e] X.env = (false, eval e X.env) :: starEach [] X.env := by rfl)
    (hfew : ((backTo cpos (starEach [e] X.env)).all (fun x => !x.1) && (backToKw cpos (keywordEach [] X.env)).all (fun x => x.1.isSome)
      && decide ([e].length + ([] : List Keyword).length + (if ([] : List Keyword).isEmpty then 0 else 1) < 30)) = true := by rfl)
    (hline : (apos.endLine == cpos.line) = true := by rfl)
    (hs : swapsWith (.Call (.Attribute o "extend" apos) [e] [] cpos) none pos.line X.env = pure false := by rfl) :
    DS X (.Expr (.Call (.Attribute o "extend" apos) [e] [] cpos) pos) (tDrop (tBM X.K "list" rExtend to (tCons te tNil))) (sExtP i fo f) [] := by
  refine ⟨ps_expr (pe_bm PySem.F.plainAttrs_list PySem.F.slot_list_extend PySem.F.type_list_extend mt_extend ho.pe (pa_cons h.pe pa_nil hse) hb hfew hline hse rfl) hs, ?_⟩
  intro G0 H0 H ts vs env σ fl env' S g D q
  obtain ⟨⟨P, e1⟩, g1, g2⟩ := obind g
  obtain ⟨t0, g3, g4⟩ := obind g2
  dsimp only at g4
  split at g4
  · rename_i us0 hu0
    obtain ⟨⟨y, e2⟩, g5, g6⟩ := obind g4
    obtain ⟨us2, rfl⟩ : ∃ us2, y = .lst us2 := by
      cases y with
      | lst u => exact ⟨u, rfl⟩
      | _ => cases g6
    · obtain ⟨t, g7, g8⟩ := obind (show (atP e2 i P).bind _ = _ from g6)
      dsimp only at g8
      split at g8
      · rename_i us hu
        split at g8
        · rename_i hl
          cases g8
          refine ho.ok _ _ _ _ _ _ _ _ _ _ S g1 _ fun v w H1 s1 S1 hv hc => ?_
          obtain ⟨tt0, k1, k2⟩ := atP_eq g3
          obtain ⟨G, o1, r, sG⟩ := S1.at' k1 k2 hv hc
          have r := r.unb
          rw [hu0] at r
          obtain ⟨a, xs0, o', h1, h2, _⟩ := r
          subst h1
          refine ⟨.inl ⟨rfl, xs0, .inl (.inl h2)⟩, ?_⟩
          refine h.ok _ _ _ _ _ _ _ _ _ _ S1 g5 _ fun x H2 s2 S2 => ?_
          obtain ⟨tt, k3, k4⟩ := atP_eq g7
          obtain ⟨G2, p1, p2, r1, r2, nd, sG2, fr, wr⟩ := OkS.wr (es := [.lst us2]) (ws := [x]) S2 rfl k3 k4 hv (hc.same s2)
          have ru := r1.unb
          rw [hu] at ru
          obtain ⟨a', xs, o2, h1', h2', h3', h4'⟩ := ru
          cases h1'
          subst h4'
          obtain ⟨x', r', q1, q2, q3, q4, q5, q6⟩ := r2
          cases q3
          obtain ⟨e7, e8⟩ := q5
          cases e7
          subst e8
          rw [List.append_nil] at q6
          subst q6
          obtain ⟨b, zs, o3, f1, f2, f3, f4⟩ := q4
          subst f1; subst f4
          have nd' : (a :: (o2 ++ b :: o3)).Nodup := nd
          have na : a ∉ o2 ++ b :: o3 := (List.nodup_cons.mp nd').1
          refine ⟨a, b, xs, zs, rfl, rfl, h2', f2, by rw [h3'.len, f3.len, sizeLine_eq]; omega, ?_⟩
          have r3 := (h3'.append f3).mono (Same.refl G2) (H' := upd H2 a (.lst (xs ++ zs))) _ (wN fun hm => na (by
            rcases List.mem_append.mp hm with hm | hm
            · simp [hm]
            · simp [hm]))
          have S3 := wr a (.lst (xs ++ zs)) (reb t (.lst (us ++ us2))) [] [] (a :: (o2 ++ o3)) [] [b] (by simp) (r1.reb ⟨a, _, _, rfl, upd_same, r3, rfl⟩) ⟨rfl, rfl⟩ (by
            refine List.perm_iff_count.mpr fun x => ?_
            simp only [List.count_append, List.count_cons, List.count_nil]; omega)
          rw [← putP_eq k3] at S3
          exact q _ _ S3 .rfl'
        · cases g8
      · cases g8
  · cases g4
def sRevP (i : Nat) (fo : PF) : SF := fun env => (fo env).bind fun r => (atP r.2 i r.1).bind fun t => match unb t with
  | .lst us => some (.nx, putP r.2 i r.1 (reb t (.lst us.reverse)))
  | _ => none
theorem RpTs.reverse {K : KW} {G H : Hp} : ∀ {ts : List T} {vs : List V} {o : List Addr}, RpTs K G H ts vs o → ∃ o', RpTs K G H ts.reverse vs.reverse o' ∧ o'.Perm o
  | [], _, _, h => ⟨[], by rw [h.1]; exact ⟨rfl, rfl⟩, by rw [h.2]⟩
  | t :: ts, _, _, ⟨v, r, o1, o2, h1, h2, h3, h4⟩ => by
    subst h1
    obtain ⟨o', f1, f2⟩ := RpTs.reverse h3
    refine ⟨o' ++ (o1 ++ []), ?_, ?_⟩
    · rw [List.reverse_cons, List.reverse_cons]
      exact f1.append ⟨v, [], o1, [], rfl, h2, ⟨rfl, rfl⟩, rfl⟩
    · rw [h4, List.append_nil]
      exact (List.Perm.append_right _ f2).trans List.perm_append_comm
theorem pe_revM (he : PE X o to) (hb : attributeBase o "reverse" X.env (eval o X.env) = eval o X.env) (hline : (apos.endLine == cpos.line) = true) : PE X (.Call (.Attribute o "reverse" apos) [] [] cpos) (fun σ H Q => to σ H fun x H1 => ∃ l xs, x = .ref l ∧ H1 l = some (.lst xs) ∧ Q .non (upd H1 l (.lst xs.reverse))) := by
  refine ⟨fun pins s σ H Q I h => ?_⟩
  refine wpAny_Call_method0_late hb hline (thn (he.run pins s σ H _ I h) fun v s1 ⟨x, H1, I1, r1, l, xs, e1, e2, q1⟩ => ?_)
  obtain ⟨h1, h2⟩ := tyV_is I1 r1 (T := "list") (by rw [e1]; exact .inl ⟨rfl, xs, .inl (.inl e2)⟩)
  exact ⟨"list", "list.reverse", PySem.F.plainAttrs_list, PySem.F.slot_list_reverse, PySem.F.type_list_reverse, h1, h2, Calls.callWith_builtin rfl (PySem.evalArgs_none (mt_reverse pins s1 σ H1 x [] v [] Q I1 r1 .nil ⟨l, xs, e1, rfl, e2, q1⟩))⟩
theorem ds_revP (ho : DP X o to i fo) (hb : attributeBase o "reverse" X.env (eval o X.env) = eval o X.env := by rfl) (hline : (apos.endLine == cpos.line) = true := by rfl)
    (hs : swapsWith (.Call (.Attribute o "reverse" apos) [] [] cpos) none pos.line X.env = pure false := by rfl) : DS X (.Expr (.Call (.Attribute o "reverse" apos) [] [] cpos) pos) (tDrop fun σ H Q => to σ H fun x H1 => ∃ l xs, x = .ref l ∧ H1 l = some (.lst xs) ∧ Q .non (upd H1 l (.lst xs.reverse))) (sRevP i fo) [] := by
  refine ⟨ps_expr (pe_revM ho.pe hb hline) hs, ?_⟩
  intro G0 H0 H ts vs env σ fl env' S g D q
  obtain ⟨⟨P, e1⟩, g1, g2⟩ := obind g
  obtain ⟨t, g3, g4⟩ := obind g2
  dsimp only at g4
  split at g4
  · rename_i us hu
    cases g4
    refine ho.ok _ _ _ _ _ _ _ _ _ _ S g1 _ fun v w H1 s1 S1 hv hc => ?_
    obtain ⟨tt, k3, k4⟩ := atP_eq g3
    obtain ⟨G2, p1, p2, r1, r2, nd, sG2, fr, wr⟩ := OkS.wr (es := []) (ws := []) S1 rfl k3 k4 hv hc
    have ru := r1.unb
    rw [hu] at ru
    obtain ⟨a, xs, o2, h1, h2, h3, h4⟩ := ru
    subst h1
    subst h4
    have e2' : p2 = [] := r2.2
    subst e2'
    have na : a ∉ o2 := (List.nodup_cons.mp (show (a :: (o2 ++ [])).Nodup from nd)).1 |> fun h hm => h (by simp [hm])
    refine ⟨a, xs, rfl, h2, ?_⟩
    obtain ⟨o4, f1, f2⟩ := (h3.mono (Same.refl G2) (H' := upd H1 a (.lst xs.reverse)) _ (wN na)).reverse
    have S3 := wr a (.lst xs.reverse) (reb t (.lst us.reverse)) [] [] (a :: o4) [] [] (by simp) (r1.reb ⟨a, _, _, rfl, upd_same, f1, rfl⟩) ⟨rfl, rfl⟩ (by
      simp only [List.cons_append, List.append_nil]
      exact List.Perm.cons a f2.symm)
    rw [← putP_eq k3] at S3
    exact q _ _ S3 .rfl'
  · cases g4
end
end DL
namespace DL
open PySem PySem.Spec PyProof.Rows L2
variable {env e : Env} {i j n k : Nat} {t u : T} {ts us : List T} {d a b : D} {ds es : List D} {fa fb fc f fk fx : EF} {r : AF} {F1 F2 F : SF} {G : GF} {z w : Int} {P : List Stp} {fo : PF} {ky : Key} {kvs : List (Key × T)} {nm fn : Str} {fs : List (Str × T)} {ad : Addr} {kd : List (Key × D)}
variable {φ : T → List D → Option (T × T)}
end DL
namespace DL
open PySem PySem.Spec PyProof.Rows L2
section
variable {K K' : PySem.W.Frag}
theorem Less.ns (L : Less K K') {ns : Addr} {name : Str} {r : Option Value} (h : PySem.W.nsIn K ns name = some r) : PySem.W.nsIn K' ns name = some r := by
  unfold PySem.W.nsIn at h ⊢
  split at h
  · rename_i e
    rw [L _ _ e fun ⟨_, _, _, e⟩ => nomatch e]
    exact h
  · cases h
theorem Less.own (L : Less K K') {name : Str} {c : Value} {r : Option Value} (h : PySem.W.ownIn K name c = some r) : PySem.W.ownIn K' name c = some r := by
  cases c with
  | ref a =>
    unfold PySem.W.ownIn at h ⊢
    dsimp only at h ⊢
    split at h
    · rename_i e
      rw [L _ _ e fun ⟨_, _, _, e⟩ => nomatch e]
      exact L.ns h
    · cases h
  | _ => exact h
theorem Less.along (L : Less K K') {name : Str} : ∀ {cs : List Value} {r : Option Value}, PySem.W.alongIn K name cs = some r → PySem.W.alongIn K' name cs = some r
  | [], _, h => h
  | c :: cs, r, h => by
    unfold PySem.W.alongIn at h ⊢
    split at h
    · rename_i e
      rw [L.own e]; exact h
    · rename_i e
      rw [L.own e]; exact Less.along L h
    · cases h
theorem Less.find (L : Less K K') {t : Value} {name : Str} {r : Option Value} (h : PySem.W.findIn K t name = some r) : PySem.W.findIn K' t name = some r := by
  cases t with
  | ref a =>
    unfold PySem.W.findIn at h ⊢
    dsimp only at h ⊢
    split at h
    · rename_i e
      rw [L _ _ e fun ⟨_, _, _, e⟩ => nomatch e]
      exact L.along h
    · cases h
  | _ => exact h
theorem Less.cls (L : Less K K') {C : Addr} {cd : ClassData} (h : PySem.W.clsIn K C = some cd) : PySem.W.clsIn K' C = some cd := by
  unfold PySem.W.clsIn at h ⊢
  split at h
  · rename_i e
    rw [L _ _ e fun ⟨_, _, _, e⟩ => nomatch e]
    exact h
  · cases h
theorem Less.clsAny (L : Less K K') {C : Addr} {p : ClassData → Bool} (h : (PySem.W.clsIn K C).any p = true) : (PySem.W.clsIn K' C).any p = true := by
  cases e : PySem.W.clsIn K C with
  | none => rw [e] at h; cases h
  | some cd => rw [e] at h; rw [L.cls e]; exact h
theorem Less.Cls (L : Less K K') {C : Addr} (c : L2.Cls K C) : L2.Cls K' C := by
  obtain ⟨pg, hd, po, sa⟩ := c
  refine ⟨?_, L.clsAny hd, L.clsAny po, L.find sa⟩
  unfold PySem.W.plainGet at pg ⊢
  rw [Bool.and_eq_true, beq_iff_eq, beq_iff_eq] at pg ⊢
  exact ⟨L.find pg.1, L.find pg.2⟩
theorem Less.NoAttr (L : Less K K') {C : Addr} {f : Str} (n : L2.NoAttr K C f) : L2.NoAttr K' C f := L.find n
theorem Less.ClsN (L : Less K K') {n : Str} {C : Addr} (h : DL.ClsN K n C) : DL.ClsN K' n C := L.ns h
theorem Less.sub (L : Less K K') {t b : Value} {r : Bool} (h : PySem.W.subIn K t b = some r) : PySem.W.subIn K' t b = some r := by
  cases t with
  | ref C =>
    have h : (PySem.W.clsIn K C).bind _ = some r := h
    obtain ⟨cd, h1, h2⟩ := Option.bind_eq_some_iff.mp h
    show (PySem.W.clsIn K' C).bind _ = some r
    rw [L.cls h1]
    exact h2
  | _ => exact h
end
end DL
namespace DL
open PySem PySem.Spec PyProof.Rows L2
section
variable {K : KW} {G0 H0 H : Hp} {W : List (T × V)} {ts : List T} {vs : List V} {env : Env} {σ : St}
theorem OkS.chg {i : Nat} {P : List Stp} {u : T} (S : OkS K G0 H0 W H ts vs env σ) (h : atP env i P = some u) : ∃ v w, σ[i]? = some (some v) ∧ Ch H P v w ∧ (∃ G o, Same G H ∧ Rp K G H u w o) ∧
    ∀ u', (∀ G o, Same G H → Rp K G H u w o → Rp K G H u' w o) → OkS K G0 H0 W H ts vs (putP env i P u') σ := by
  obtain ⟨t, h1, h2⟩ := atP_eq h
  obtain ⟨G, ot, oe, s⟩ := S
  obtain ⟨v, oA, oB, e1, e2, e3, e4⟩ := s.env.take h1
  obtain ⟨w, o1, o2, f1, f2, f3, f4⟩ := e2.foc s.gh h2
  refine ⟨v, w, e1, f1, ⟨G, o1, s.gh, f2⟩, fun u' hu => ?_⟩
  rw [putP_eq h1]
  obtain ⟨o', q1, q2⟩ := f4 (G' := G) (H' := H) (Same.refl _) (fun _ _ => rfl) (hu G o1 s.gh f2)
  have hl : i < env.length := (List.getElem?_eq_some_iff.mp h1).1
  obtain ⟨o8, g1, g2⟩ := e3.put (i := i) (by simpa using hl) (fun x z => by rw [List.getElem?_set_self hl] at z; cases z) q1
  rw [List.set_set, set_back e1] at g1
  have pm : o8.Perm oe := g2.trans ((List.Perm.append_right _ (q2.trans f3.symm)).trans e4.symm)
  have pm2 : (ot ++ o8).Perm (ot ++ oe) := List.Perm.append_left _ pm
  exact ⟨G, ot, o8, s.tmp, g1, pm2.nodup_iff.mpr s.nd, fun a ha => s.fr a (pm2.mem_iff.mp ha), s.g0, s.gh, s.h0, s.nw, s.vw⟩
end
def isR : T → Bool
  | .lst _ => true
  | .dic _ => true
  | .dit _ => true
  | .obj _ _ => true
  | _ => false
theorem isR_ref {K : KW} {G H : Hp} {u : T} {w : V} {o : List Addr} (h : isR u = true) (r : Rp K G H u w o) : ∃ a, w = .ref a := by
  cases u with
  | lst _ => obtain ⟨a, _, _, e, _⟩ := r; exact ⟨a, e⟩
  | dic _ => obtain ⟨a, _, _, e, _⟩ := r; exact ⟨a, e⟩
  | dit _ => obtain ⟨a, _, _, e, _⟩ := r; exact ⟨a, e⟩
  | obj _ _ => obtain ⟨a, _, _, _, _, e, _⟩ := r; exact ⟨a, e⟩
  | _ => cases h
def unbP (env : Env) (i : Nat) (P : List Stp) : Env := match atP env i P with
  | some t => putP env i P (unb t)
  | none => env
open Classical in
noncomputable def sBox (i : Nat) (fo : PF) (F : SF) : SF := fun env => (fo env).bind fun r => (atP env i r.1).bind fun u => if isR u = true then
  (if h : ∃ z, ∀ a, ((F (putP env i r.1 (.box a u))).map fun s => (s.1, unbP s.2 i r.1)) = some z then some h.choose else none) else none
section
variable {X : Cx} {e o k : Expr} {te to tk : TE} {f fk : EF} {fo : PF} {i : Nat} {pos cpos apos ipos tpos : Pos}
end
end DL
namespace DL
open PySem PySem.Spec PyProof.Rows L2
section
variable {K : KW} {G0 H0 H : Hp} {W : List (T × V)} {ts : List T} {vs : List V} {env : Env} {σ : St} {t : T} {v : V}
def pairsTt (kvs : List (List Key × D)) : List (List Key × T) := kvs.map fun kv => (kv.1, T.p kv.2)
theorem rpTt_of {G : Hp} : ∀ {kvs : List (List Key × D)} {xs : List (List Key × V)} {o : List Addr}, RpTt K G H (pairsTt kvs) xs o → RpKt K G kvs xs ∧ o = []
  | [], _, _, h => h
  | (k, d) :: r, _, _, ⟨v, r', o1, o2, h1, h2, h3, h4⟩ => by
    obtain ⟨g1, g2⟩ := rpTt_of h3
    exact ⟨⟨v, r', h1, h2.1, g1⟩, by rw [h4, h2.2, g2]; rfl⟩
def putDt (kvs : List (List Key × D)) (k : List Key) (d : D) : List (List Key × D) := if (kvs.any fun kv => decide (kv.1 = k)) = true then kvs.map (fun kv => if kv.1 = k then (kv.1, d) else kv) else kvs ++ [(k, d)]
def valDt (kvs : List (List Key × D)) (k : List Key) : Option D := (kvs.find? fun kv => decide (kv.1 = k)).map (·.2)
theorem RpKt.any {G : Hp} (k : List Key) : ∀ {kvs : List (List Key × D)} {xs : List (List Key × V)}, RpKt K G kvs xs → (xs.any fun kv => decide (kv.1 = k)) = kvs.any fun kv => decide (kv.1 = k)
  | [], xs, h => by rw [show xs = [] from h]; rfl
  | (j, d) :: r, _, ⟨v, r', h1, h2, h3⟩ => by rw [h1, List.any_cons, List.any_cons, RpKt.any k h3]
theorem RpKt.upd {G : Hp} (k : List Key) {d : D} {v : V} (hv : RpD K G d v) : ∀ {kvs : List (List Key × D)} {xs : List (List Key × V)}, RpKt K G kvs xs → RpKt K G (kvs.map (fun kv => if kv.1 = k then (kv.1, d) else kv)) (xs.map (fun kv => if kv.1 = k then (kv.1, v) else kv))
  | [], xs, h => by rw [show xs = [] from h]; exact rfl
  | (j, e) :: r, _, ⟨w, r', h1, h2, h3⟩ => by
    subst h1
    rw [List.map_cons, List.map_cons]
    have ih := RpKt.upd k hv h3
    by_cases c : j = k
    · rw [if_pos c, if_pos c]; exact ⟨v, _, rfl, hv, ih⟩
    · rw [if_neg c, if_neg c]; exact ⟨w, _, rfl, h2, ih⟩
theorem RpKt.app {G : Hp} {k : List Key} {d : D} {v : V} (hv : RpD K G d v) : ∀ {kvs : List (List Key × D)} {xs : List (List Key × V)}, RpKt K G kvs xs → RpKt K G (kvs ++ [(k, d)]) (xs ++ [(k, v)])
  | [], xs, h => by rw [show xs = [] from h]; exact ⟨v, [], rfl, hv, rfl⟩
  | (j, e) :: r, _, ⟨w, r', h1, h2, h3⟩ => by subst h1; exact ⟨w, _, rfl, h2, RpKt.app hv h3⟩
theorem RpKt.put {G : Hp} {k : List Key} {d : D} {v : V} (hv : RpD K G d v) {kvs : List (List Key × D)} {xs : List (List Key × V)} (h : RpKt K G kvs xs) : RpKt K G (putDt kvs k d) (putK xs k v) := by
  unfold putDt putK
  rw [h.any k]
  split
  · exact h.upd k hv
  · exact h.app hv
theorem RpKt.val {G : Hp} (k : List Key) : ∀ {kvs : List (List Key × D)} {xs : List (List Key × V)}, RpKt K G kvs xs → (valDt kvs k = none → valV xs k = none) ∧ ∀ d, valDt kvs k = some d → ∃ v, valV xs k = some v ∧ RpD K G d v
  | [], xs, h => by rw [show xs = [] from h]; exact ⟨fun _ => rfl, fun d h => (nomatch h)⟩
  | (j, e) :: r, _, ⟨w, r', h1, h2, h3⟩ => by
    subst h1
    by_cases c : j = k
    · have e1 : valDt ((j, e) :: r) k = some e := by simp [valDt, List.find?_cons, c]
      rw [e1, valV_pos (by exact c)]
      exact ⟨fun h => (nomatch h), fun d h => by cases h; exact ⟨w, rfl, h2⟩⟩
    · have e1 : valDt ((j, e) :: r) k = valDt r k := by simp [valDt, List.find?_cons, c]
      rw [e1, valV_neg (by exact c)]
      exact RpKt.val k h3
theorem RpKt.length {G : Hp} : ∀ {kvs : List (List Key × D)} {xs : List (List Key × V)}, RpKt K G kvs xs → xs.length = kvs.length
  | [], xs, h => by rw [show xs = [] from h]; rfl
  | (j, e) :: r, _, ⟨w, r', h1, h2, h3⟩ => by subst h1; simp [RpKt.length h3]
def frzT : List (List Key × T) → Option (List (List Key × D))
  | [] => some []
  | (k, .p d) :: r => (frzT r).map ((k, d) :: ·)
  | _ :: _ => none
theorem frzT_eq : ∀ {kvs : List (List Key × T)} {ds : List (List Key × D)}, frzT kvs = some ds → kvs = pairsTt ds
  | [], ds, h => by cases h; rfl
  | (k, .p d) :: r, ds, h => by
    obtain ⟨es, h1, h2⟩ := omap (show (frzT r).map ((k, d) :: ·) = some ds from h)
    subst h2
    rw [frzT_eq h1]; rfl
  | (_, .lst _) :: _, _, h => by cases h
  | (_, .tup _) :: _, _, h => by cases h
  | (_, .dit _) :: _, _, h => by cases h
end
def ditT : T → Option (List (List Key × D))
  | .p (.dit kvs) => some kvs
  | .dit kvs => frzT kvs
  | _ => none
theorem St0.dit {K : KW} {G0 H0 G H : Hp} {W : List (T × V)} {ts : List T} {vs : List V} {env : Env} {σ : St} {ot oe : List Addr} {t : T} {v : V} {ds : List (List Key × D)} (s : St0 K G0 H0 W G H ts vs env σ ot oe) (hq : (t, v) ∈ W) (h : ditT t = some ds) :
    ∃ a xs, v = .ref a ∧ Rd H a (.dT xs) ∧ RpKt K G ds xs := by
  obtain ⟨o, r⟩ := s.vw (t, v) hq
  cases t with
  | p d =>
    cases d with
    | dit kvs =>
      cases h
      obtain ⟨⟨a, xs, e1, e2, e3⟩, _⟩ := r
      exact ⟨a, xs, e1, Same.rd s.gh e2, e3⟩
    | _ => cases h
  | dit kvs =>
    have e := frzT_eq (show frzT kvs = some ds from h)
    subst e
    obtain ⟨a, xs, o', e1, e2, e3, e4⟩ := r
    exact ⟨a, xs, e1, .inl e2, (rpTt_of e3).1⟩
  | _ => cases h
section
variable {X : Cx} {o i x : Expr} {to ti tx : TE} {fo fi fx : EF} {pos apos : Pos}
end
section
variable {X : Cx} {e o k : Expr} {te to tk : TE} {f fk : EF} {fo : PF} {i : Nat} {pos ipos : Pos}
end
end DL
namespace DL
open PySem PySem.Spec PyProof.Rows L2
section
variable {X : Cx} {e : Expr} {te : TE} {f : EF} {a b : List Stmt} {t u : TS} {F1 F2 : SF} {sl sl2 : List Nat} {pos : Pos}
end
mutual
def cleanD : D → Bool
  | .non => true
  | .bl _ => true
  | .int _ => true
  | .str _ => true
  | .tup ds => cleanDs ds
  | .tux ds => cleanDs ds
  | _ => false
def cleanDs : List D → Bool
  | [] => true
  | d :: ds => cleanD d && cleanDs ds
end
mutual
def cleanV : T → Bool
  | .p d => cleanD d
  | .lst ts => cleanVs ts
  | .tup ts => cleanVs ts
  | _ => false
def cleanVs : List T → Bool
  | [] => true
  | t :: ts => cleanV t && cleanVs ts
end
section
variable {K : KW} {G G' H : Hp}
mutual
theorem RpD.cleanV (e : ∀ a u, Fix u → G a = some u → G' a = some u) : ∀ (d : D) {v : V}, cleanD d = true → RpD K G d v → RpD K G' d v
  | .non, _, _, h => h
  | .bl _, _, _, h => h
  | .int _, _, _, h => h
  | .str _, _, _, h => h
  | .tup ds, _, c, ⟨a, vs, h1, h2, h3⟩ => ⟨a, vs, h1, e _ _ .t h2, RpDs.cleanV e ds (by unfold cleanD at c; exact c) h3⟩
  | .tux ds, _, c, ⟨a, o, vs, h1, h2, h4, h3⟩ => ⟨a, o, vs, h1, e _ _ .f h2, h4, RpDs.cleanV e ds (by unfold cleanD at c; exact c) h3⟩
  | .lst _, _, c, _ => by unfold cleanD at c; cases c
  | .dic _, _, c, _ => by unfold cleanD at c; cases c
  | .dit _, _, c, _ => by unfold cleanD at c; cases c
  | .obj _ _, _, c, _ => by unfold cleanD at c; cases c
  | .al _, _, c, _ => by unfold cleanD at c; cases c
  | .din _, _, c, _ => by unfold cleanD at c; cases c
theorem RpDs.cleanV (e : ∀ a u, Fix u → G a = some u → G' a = some u) : ∀ (ds : List D) {vs : List V}, cleanDs ds = true → RpDs K G ds vs → RpDs K G' ds vs
  | [], _, _, h => h
  | d :: ds, _, c, ⟨v, r, h1, h2, h3⟩ => by
    unfold cleanDs at c
    rw [Bool.and_eq_true] at c
    exact ⟨v, r, h1, RpD.cleanV e d c.1 h2, RpDs.cleanV e ds c.2 h3⟩
end
mutual
theorem Rp.cleanV (e : ∀ a u, Fix u → G a = some u → G' a = some u) : ∀ (t : T) {v : V} {o : List Addr}, DL.cleanV t = true → Rp K G H t v o → Rp K G' H t v o
  | .p d, _, _, c, ⟨h1, h2⟩ => ⟨RpD.cleanV e d (by unfold DL.cleanV at c; exact c) h1, h2⟩
  | .lst ts, _, _, c, ⟨a, vs, o', h1, h2, h3, h4⟩ => ⟨a, vs, o', h1, h2, RpTs.cleanV e ts (by unfold DL.cleanV at c; exact c) h3, h4⟩
  | .tup ts, _, _, c, ⟨a, vs, h1, h2, h3⟩ => ⟨a, vs, h1, e _ _ .t h2, RpTs.cleanV e ts (by unfold DL.cleanV at c; exact c) h3⟩
  | .dic _, _, _, c, _ => by unfold DL.cleanV at c; cases c
  | .dit _, _, _, c, _ => by unfold DL.cleanV at c; cases c
  | .obj _ _, _, _, c, _ => by unfold DL.cleanV at c; cases c
  | .box _ _, _, _, c, _ => by unfold DL.cleanV at c; cases c
  | .al _, _, _, c, _ => by unfold DL.cleanV at c; cases c
  | .din _, _, _, c, _ => by unfold DL.cleanV at c; cases c
theorem RpTs.cleanV (e : ∀ a u, Fix u → G a = some u → G' a = some u) : ∀ (ts : List T) {vs : List V} {o : List Addr}, cleanVs ts = true → RpTs K G H ts vs o → RpTs K G' H ts vs o
  | [], _, _, _, h => h
  | t :: ts, _, _, c, ⟨v, r, o1, o2, h1, h2, h3, h4⟩ => by
    unfold cleanVs at c
    rw [Bool.and_eq_true] at c
    exact ⟨v, r, o1, o2, h1, Rp.cleanV e t c.1 h2, RpTs.cleanV e ts c.2 h3, h4⟩
end
end
section
variable {X : Cx} {i o : Expr} {ti to : TE} {fi fo : EF} {pos : Pos}
theorem dc_dnin (hu : X.A.units + 1 < cLine) (hi : DV X i ti fi) (ho : DV X o to fo) (hm : behindInMarks .NotIn o = false := by with_unfolding_all rfl) : DC X (.Compare i [.NotIn] [o] pos) (tTest (tDNotIn ti to)) (cT (eDin false fi fo)) := ⟨pt_cmp (pc_dnotin hu hi.pe ho.pe) hm, (ev_din false rfl ho.ok hi.ok).test⟩
end
end DL
namespace DL
open PySem PySem.Spec PyProof.Rows L2
section
variable {K : KW} {G0 H0 H : Hp} {W : List (T × V)} {ts : List T} {vs : List V} {env : Env} {σ : St} {i : Nat} {P : List Stp} {u : T} {v w : V}
theorem OkS.moveW (S : OkS K G0 H0 W H ts vs env σ) (h : atP env i P = some u) (hv : σ[i]? = some (some v)) (hc : Ch H P v w) (u0 : T) (h0 : ∀ G, Rp K G H u0 w []) :
    OkS K G0 H0 W H (u :: ts) (w :: vs) (putP env i P u0) σ := by
  obtain ⟨t, h1, h2⟩ := atP_eq h
  obtain ⟨G, ot, oe, s⟩ := S
  obtain ⟨v', oA, oB, e1, e2, e3, e4⟩ := s.env.take h1
  rw [hv] at e1; cases e1
  obtain ⟨w', o1, o2, f1, f2, f3, f4⟩ := e2.foc s.gh h2
  have := f1.det hc
  subst this
  rw [putP_eq h1]
  obtain ⟨o', q1, q2⟩ := f4 (G' := G) (H' := H) (u' := u0) (o1' := []) (Same.refl _) (fun _ _ => rfl) (h0 G)
  have hl : i < env.length := (List.getElem?_eq_some_iff.mp h1).1
  obtain ⟨o8, g1, g2⟩ := e3.put (i := i) (by simpa using hl) (fun x z => by rw [List.getElem?_set_self hl] at z; cases z) q1
  rw [List.set_set, set_back hv] at g1
  have pm : o8.Perm (o2 ++ oB) := g2.trans (List.Perm.append_right _ q2)
  have pm2 : ((o1 ++ ot) ++ o8).Perm (ot ++ oe) := by
    refine List.Perm.trans (List.Perm.append_left _ pm) ?_
    refine List.Perm.trans ?_ (List.Perm.append_left ot (e4.trans (List.Perm.append_right _ f3))).symm
    exact List.perm_iff_count.mpr fun x => by simp only [List.count_append]; omega
  exact ⟨G, o1 ++ ot, o8, ⟨w', vs, o1, ot, rfl, f2, s.tmp, rfl⟩, g1, pm2.nodup_iff.mpr s.nd, fun a ha => s.fr a (pm2.mem_iff.mp ha), s.g0, s.gh, s.h0, s.nw, s.vw⟩
theorem OkS.fill {u' : T} (S : OkS K G0 H0 [] H (u' :: ts) (w :: vs) env σ) (h : atP env i P = some u) (hv : σ[i]? = some (some v)) (hc : Ch H P v w) : OkS K G0 H0 [] H ts vs (putP env i P u') σ := by
  obtain ⟨t, h1, h2⟩ := atP_eq h
  obtain ⟨G, ot, oe, s⟩ := S
  obtain ⟨w0, r0, oa, ob, k1, k2, k3, k4⟩ := s.tmp
  cases k1
  subst k4
  obtain ⟨v', oA, oB, e1, e2, e3, e4⟩ := s.env.take h1
  rw [hv] at e1; cases e1
  obtain ⟨w', o1, o2, f1, f2, f3, f4⟩ := e2.foc s.gh h2
  have := f1.det hc
  subst this
  rw [putP_eq h1]
  obtain ⟨o', q1, q2⟩ := f4 (G' := G) (H' := H) (Same.refl _) (fun _ _ => rfl) k2
  have hl : i < env.length := (List.getElem?_eq_some_iff.mp h1).1
  obtain ⟨o8, g1, g2⟩ := e3.put (i := i) (by simpa using hl) (fun x z => by rw [List.getElem?_set_self hl] at z; cases z) q1
  rw [List.set_set, set_back hv] at g1
  have pm : o8.Perm (oa ++ (o2 ++ oB)) := g2.trans (by rw [← List.append_assoc]; exact List.Perm.append_right _ q2)
  have pm2 : ((ob ++ o8) ++ o1).Perm ((oa ++ ob) ++ oe) := by
    refine List.Perm.trans (List.Perm.append_right _ (List.Perm.append_left _ pm)) ?_
    refine List.Perm.trans ?_ (List.Perm.append_left _ (e4.trans (List.Perm.append_right _ f3))).symm
    exact List.perm_iff_count.mpr fun x => by simp only [List.count_append]; omega
  have nd2 := pm2.nodup_iff.mpr s.nd
  exact ⟨G, ob, o8, k3, g1, (List.nodup_append.mp nd2).1, fun a ha => s.fr a (pm2.mem_iff.mp (List.mem_append_left _ ha)), s.g0, s.gh, s.h0, s.nw, fun q hq => by cases hq⟩
end
def backP (i j : Nat) (P : List Stp) (a : Addr) (s : Fl × Env) : Option (Fl × Env) := match s.2[j]? with
  | some (some u') => (match atP (s.2.set j none) i P with
    | some (.al b) => if b = a + 1 then some (s.1, putP (s.2.set j none) i P u') else none
    | _ => none)
  | _ => none
open Classical in
noncomputable def sAl (j i : Nat) (fo : PF) (F : SF) : SF := fun env => (fo env).bind fun r => (atP r.2 i r.1).bind fun u => if isR u = true ∧ j < r.2.length then
  (if h : ∃ z, ∀ a : Addr, ((F ((putP r.2 i r.1 (.al (a + 1))).set j (some u))).bind (backP i j r.1 a)) = some z then some h.choose else none) else none
theorem backP_ok {K : KW} {G0 H0 H : Hp} {ts : List T} {vs : List V} {e2 env' : Env} {σ : St} {i j : Nat} {P : List Stp} {a : Addr} {fl fl' : Fl} (h : backP i j P a (fl, e2) = some (fl', env')) (S : OkS K G0 H0 [] H ts vs e2 σ) (hj : σ[j]? = some (some (.ref a))) : fl' = fl ∧ OkS K G0 H0 [] H ts vs env' σ := by
  unfold backP at h
  dsimp only at h
  split at h
  · rename_i u' e
    split at h
    · rename_i b eb
      split at h
      · rename_i hb
        subst hb
        cases h
        obtain ⟨v, hv, S1⟩ := S.get e
        rw [hj] at hv; cases hv
        obtain ⟨v2, w2, hv2, hc2, ⟨_, _, _, hw, _⟩, _⟩ := S1.chg eb
        have hw : w2 = .ref a := hw (Nat.succ_ne_zero _)
        subst hw
        exact ⟨rfl, S1.fill eb hv2 hc2⟩
      · cases h
    · cases h
  · cases h
end DL
namespace DL
open PySem PySem.Spec PyProof.Rows L2
section
variable {K : KW} {G0 H0 H : Hp} {ts pre post : List T} {vs : List V} {env : Env} {σ : St} {t : T} {v : V}
end
theorem OkS.cell {K : KW} {G0 H0 H : Hp} {us ts : List T} {vs : List V} {v : V} {env : Env} {σ : St} (S : OkS K G0 H0 [] H (.lst us :: ts) (v :: vs) env σ) : ∃ a xs, v = .ref a ∧ H a = some (.lst xs) ∧ xs.length = us.length := by
  obtain ⟨G, ot, oe, s⟩ := S
  obtain ⟨u, r, o1, o2, h1, ⟨a, xs, o', k1, k2, k3, k4⟩, h3, h4⟩ := s.tmp
  cases h1
  exact ⟨a, xs, k1, k2, k3.len⟩
end DL
namespace DL
open PySem PySem.Spec PyProof.Rows L2
section
variable {X : Cx} {a e : Expr} {ta te : TE} {fa f : EF} {npos p pos p1 p2 tpos : Pos}
end
end DL
namespace DL
open PySem PySem.Spec PyProof.Rows L2 LiI
def gIndex (a b : Str) : Option D := match Builtin.Str.occurrences a b 0 a.length 1 with
  | i :: _ => some (.int ((i : Nat) : Int))
  | [] => none
theorem dt_index {X : Cx} {o e : Expr} {to te : TE} {fo fe : EF} {apos pos : Pos} (ho : DT X o to fo) (he : DT X e te fe) (hs : starEach [e] X.env = [(false, eval e X.env)] := by rfl) (hbase : attributeBase o "index" X.env (eval o X.env) = eval o X.env := by rfl) (hline : (apos.endLine == pos.line) = true := by rfl) :
    DT X (.Call (.Attribute o "index" apos) [e] [] pos) (tM1 (fun x xs H Q => ∃ a b i rest, x = .str a ∧ xs = [.str b] ∧ Builtin.Str.occurrences a b 0 a.length 1 = i :: rest ∧ Q (.int (i : Nat)) H) to te) (eM1 gIndex fo fe) :=
  dt_m1 F.slot_str_index F.type_str_index mt_sindex (fun a b d H Q h q => by
    unfold gIndex at h
    split at h
    · rename_i i rest hi
      cases h
      exact ⟨a, b, i, rest, rfl, rfl, hi, q _ fun _ _ => rfl⟩
    · cases h) ho he hs hbase hline
end DL
namespace DL
open PySem PySem.Spec PyProof.Rows L2
variable {env e : Env} {i j n k : Nat} {t u : T} {ts us : List T} {d a b : D} {ds es : List D} {fa fb fc f fk fx : EF} {r : AF} {F1 F2 F : SF} {G : GF} {z w : Int} {P : List Stp} {fo : PF} {ky : Key} {kvs : List (Key × T)} {nm fn : Str} {fs : List (Str × T)} {ad : Addr} {kd : List (Key × D)} {φ : T → List D → Option (T × T)} {ψ : List D → Option T}
variable {kt : List (List Key × D)} {kk : List Key}
end DL
namespace DL
open PySem PySem.Spec PyProof.Rows L2
section
variable {K : KW} {G0 H0 H : Hp} {W : List (T × V)} {ts : List T} {vs : List V} {env : Env} {σ : St} {t : T} {v : V}
end
section
variable {X : Cx} {e : Expr} {te : TE} {f : EF} {lo hi : Option Expr} {tl th : TO} {fl fh : OF} {pos p2 : Pos}
end
section
variable {f : EF} {lo hi : OF} {G : GF} {F : SF} {env e e1 e2 e3 : Env} {t u : T} {us : List T} {l h : Option Int} {r : Fl × Env}
end
end DL
namespace RT
open PySem PySem.Spec PyProof.Rows
section
variable {prog : Program} {w : World} {A : Around} {E : Value → Shared → Prop} {s : Shared}
theorem extend_rev {R : Result → Shared → Prop} {it l : Addr} {items : Array Value} (hh : A.handled = none) (hit : s.heap.IsRevIter it l ((items.size : Int) - 1)) (hl : s.heap.IsList l items) (hne : l ≠ it) (hn : items.size ≤ sizeLine)
    (S : Addr) (hSi : S ≠ it) (hSl : S ≠ l) (res : Value) (c₀ : Nat) (hS : s.heap.get? S = some { cls := .type "list", data := .seq #[] c₀ })
    (hR : ∀ (h' : Heap) (tk : Nat) (acc' : Array Value) (c' : Nat), (∀ b o, b ≠ S → b ≠ it → s.heap.get? b = some o → h'.get? b = some o) → h'.get? S = some { cls := .type "list", dict := none, data := .seq acc' c', slots := #[] } → ItemsOf (fun i v => items[items.size - 1 - i]? = some v) acc' items.size → R (.ok (.ret res)) { s with heap := h', toks := tk }) :
    wpAny (model prog w) A.in1 (Builtin.List.listExtendWith (.ref S) (.ref it) res)
      (fun fin s' => match fin with | .done f => R (.ok f) s' | .again c' => c'.quiet = true ∧ codeAny (model prog w) A c' R s') (fun e s' => R (.error e) s') s := by
  have W := (Walks.listRev (prog := prog) (w := w) (A := A.in1) hh it l hne items).toS
  have hSf : S ∉ [it, l] := by simp only [List.mem_cons, List.not_mem_nil, or_false, not_or]; exact ⟨hSi, hSl⟩
  have hT : s.TypeIs (.ref it) "list_reverseiterator" := Heap.IsRevIter.typeIs hit
  have h1 : Builtin.List.listSameRef (.ref S) (.ref it) = false := by simp [Builtin.List.listSameRef, hSi]
  unfold Builtin.List.listExtendWith
  refine wpAny_bind (wpAny_typeOf hT ?_)
  rw [if_neg (by rw [h1]; decide)]
  refine wpAny_bind (wpAny_pyIter_revIter hit ?_)
  refine wpAny_bind (wpAny_holding ?_)
  unfold Builtin.List.listLengthHint
  refine wpAny_bind (wpAny_specialOf hT nolen_lri ?_)
  show wpAny _ A.in1 (specialOf (Value.ref it) (Str.ofString "__length_hint__") >>= _) _ _ _
  refine wpAny_bind (wpAny_specialOf hT hint_lri ?_)
  generalize hid : ("list_reverseiterator.__length_hint__" : String) = id0
  wp_delta
  rw [show splitId id0 = some ("list_reverseiterator", "__length_hint__") from by subst hid; decide +kernel]
  subst hid
  refine wpAny_bind (wpAny_isInstance (b := true) hT (by rw [isSubtype_type]; kernel_rfl) ?_)
  refine wpAny_pure ?_
  rw [if_neg (by decide)]
  have e0 : ((items.size : Nat) : Int) - 1 - ((0 : Nat) : Int) = (items.size : Int) - 1 := by omega
  refine wpAny_pure ⟨plainId_quiet F.plain_extend_loop _, codeAny_extend_loopS W hn _ hSf _ items.size 0 _ _ _ rfl (Nat.zero_le _) ⟨Nat.zero_le _, by rw [e0]; exact hit, hl⟩ hS (ItemsOf.nil _) fun s' acc' c' hm hS' hacc => ?_⟩
  rw [Moved.eq_with hm]
  refine hR s'.heap s'.toks acc' c' (fun b o hb hb2 e => hm.heap b o (fun hmem => ?_) e) hS' hacc
  rcases List.mem_cons.mp hmem with e' | hmem
  · exact hb e'
  · exact hb2 (List.mem_singleton.mp hmem)
theorem call_list_rev {it l : Addr} {items : Array Value} {Q : Value → Shared → Prop} (hh : A.handled = none) (hit : s.heap.IsRevIter it l ((items.size : Int) - 1)) (hl : s.heap.IsList l items) (hne : l ≠ it) (hn : items.size ≤ sizeLine)
    (hQ : ∀ (h' : Heap) (tk : Nat) (acc : Array Value) (c' : Nat), (∀ b o, b ≠ it → s.heap.get? b = some o → h'.get? b = some o) → h'.get? s.heap.objs.size = some { cls := .type "list", dict := none, data := .seq acc c', slots := #[] } → ItemsOf (fun i v => items[items.size - 1 - i]? = some v) acc items.size →
      Q (.ref s.heap.objs.size) { s with heap := h', toks := tk }) :
    wpAny (model prog w) A (call (.type "list") [.ref it]) Q E s := by
  refine callType_codes (Q₁ := fun obj s₁ => obj = .ref s.heap.objs.size ∧ s₁ = { s with heap := s.heap.push { cls := .type "list", data := .seq #[] } }) PySem.F.called_list (PySem.F.typeCall_list_1 _) PySem.F.entry_list_init
    (code_list_new _ ⟨rfl, rfl⟩) fun obj s₁ h₁ => ?_
  obtain ⟨rfl, rfl⟩ := h₁
  have hS : (s.heap.push { cls := .type "list", data := .seq #[] }).get? s.heap.objs.size = some { cls := .type "list", data := .seq #[] } := Heap.get?_push_size _ rfl
  obtain ⟨oi, hoi, _⟩ := id hit
  obtain ⟨ol, hol, _⟩ := id hl
  have hSi : s.heap.objs.size ≠ it := Nat.ne_of_gt (Heap.lt_size hoi)
  have hSl : s.heap.objs.size ≠ l := Nat.ne_of_gt (Heap.lt_size hol)
  refine ⟨⟨_, hS, rfl⟩, PySem.F.args_list_init_2 _ _, ?_⟩
  show wpAny _ _ (do let old ← Builtin.List.listItems (.ref s.heap.objs.size); Builtin.List.listUpdate (.ref s.heap.objs.size) (fun _ => #[]); letGo old.toList.reverse; Builtin.List.listExtendWith (.ref s.heap.objs.size) (.ref it) .none) _ _ _
  refine wpAny_bind ?_
  unfold Builtin.List.listItems
  refine wpAny_bind (wpAny_seqItems hS rfl (wpAny_pure ?_))
  show wpAny _ _ (updateSeq s.heap.objs.size (fun _ => #[]) >>= fun _ => letGo (#[] : Array Value).toList.reverse >>= fun _ => Builtin.List.listExtendWith (.ref s.heap.objs.size) (.ref it) .none) _ _ _
  refine wpAny_bind (wpAny_updateSeq hS rfl ?_)
  have hS₂ := Heap.get?_update_self (Obj.mapSeq (fun _ => (#[] : Array Value))) hS rfl
  have oth : ∀ b o, b ≠ s.heap.objs.size → s.heap.get? b = some o → ((s.heap.push { cls := .type "list", data := .seq #[] }).update s.heap.objs.size (Obj.mapSeq (fun _ => (#[] : Array Value)))).get? b = some o :=
    fun b o hb e => (Heap.get?_update_other _ _ (Ne.symm hb)).trans (Heap.get?_push_of_some _ e)
  refine wpAny_bind (wpAny_letGo ?_)
  have hl2 : ((s.heap.push { cls := .type "list", data := .seq #[] }).update s.heap.objs.size (Obj.mapSeq (fun _ => (#[] : Array Value)))).IsList l items := by
    obtain ⟨o, a, b⟩ := hl
    exact ⟨o, oth _ _ (Ne.symm hSl) a, b⟩
  refine extend_rev (A := A.in1) hh (hit.at fun o e => oth _ o (Ne.symm hSi) e) hl2 hne hn _ hSi hSl .none _ hS₂ (fun h' tk acc' c' hk hS' hacc => ?_)
  exact ⟨rfl, hQ h' tk acc' c' (fun b o hb e => hk b o (Nat.ne_of_lt (Heap.lt_size e)) hb (oth b o (Nat.ne_of_lt (Heap.lt_size e)) e)) hS' hacc⟩
end
end RT
namespace DL
open PySem PySem.Spec PyProof.Rows L2 RT
def tListRev (K : PySem.W.Frag) (te : TE) : TE := fun σ H Q => te σ H fun v H1 => ∃ (a : Addr) (xs : List V), v = .ref a ∧ SqL K H1 a xs ∧ ∀ q, H1 q = none → Q (.ref q) (upd H1 q (.lst xs.reverse))
section
variable {X : Cx}
theorem pe_listRev {e : Expr} {te : TE} {p p2 pos pos2 : Pos} (hc : X.calm = true) (hg : Gl X "list") (hm : X.mg "list" = none) (hg2 : Gl X "reversed") (hm2 : X.mg "reversed" = none) (he : PE X e te)
    (hv : bootBuiltins "list" = some (.type "list") := by decide +kernel)
    (hs : starEach [e] X.env = (false, eval e X.env) :: starEach [] X.env := by rfl)
    (hs2 : starEach [.Call (.Name "reversed" p2) [e] [] pos2] X.env = (false, eval (.Call (.Name "reversed" p2) [e] [] pos2) X.env) :: starEach [] X.env := by rfl) :
    PE X (.Call (.Name "list" p) [.Call (.Name "reversed" p2) [e] [] pos2] [] pos) (tListRev X.K te) := by
  refine ⟨fun pins s σ H Q I h => ?_⟩
  refine Call_ (ld_blt I hg hm hv (PyProof.Rows.callWith_type1 (args_cons (Call_ (ld_blt I hg2 hm2 PyProof.Rows.boot_reversed (PyProof.Rows.callWith_type1 (args_cons (thn (he.run pins s σ H _ I h) fun u s1 ⟨v, H1, I1, r1, q1⟩ => args_nil ?_) hs) hs rfl))) hs2) hs2 rfl))
  obtain ⟨a, xs, ev, hq, q⟩ := q1
  subst ev
  obtain rfl : u = Value.ref a := r1
  obtain ⟨its, rv, p', hz⟩ := I1.list hq
  refine call_reversed_list p'.isList (args_nil ?_)
  have k0 : ∀ b o, s1.heap.get? b = some o → (s1.heap.push (revObj a ((its.toArray.size : Int) - 1))).get? b = some o := fun b o e => Heap.get?_push_of_some _ e
  have I2 : Inv X pins σ H1 { s1 with heap := s1.heap.push (revObj a ((its.toArray.size : Int) - 1)) } := I1.kept (t' := s1.toks) k0
  obtain ⟨f0, f1, f2, f3, f4, f5⟩ := I1.fpOk (H' := H1) (b := s1.heap.objs.size) (Nat.le_refl _) (I1.hok.fresh (Nat.le_refl _))
  have hl := p'.isList
  obtain ⟨ol, hol, _⟩ := id hl
  have hne : a ≠ s1.heap.objs.size := Nat.ne_of_lt (Heap.lt_size hol)
  have hn : its.toArray.size ≤ sizeLine := by rw [List.size_toArray, ← rv.length]; exact hz
  refine call_list_rev (s := { s1 with heap := s1.heap.push (revObj a ((its.toArray.size : Int) - 1)) }) (I1.ok.hd hc) ⟨_, Heap.get?_push_size _ rfl, rfl, rfl⟩ (hl.push _) hne hn fun h' tk acc c' hk hl' hi => ?_
  have hfr : H1 (s1.heap.push (revObj a ((its.toArray.size : Int) - 1))).objs.size = none := I2.hok.fresh (Nat.le_refl _)
  have hsz : s1.heap.objs.size ≤ (s1.heap.push (revObj a ((its.toArray.size : Int) - 1))).objs.size := by
    unfold Heap.push; simp
  refine ⟨.ref (s1.heap.push (revObj a ((its.toArray.size : Int) - 1))).objs.size, upd H1 _ (.lst xs.reverse), I1.laid (t' := tk) (fun b o e => hk b o (Nat.ne_of_lt (Heap.lt_size e)) (k0 b o e)) hsz (show ObjOk X.prog X.w _ h' _ (.lst xs.reverse) from ⟨by rw [List.length_reverse]; exact hz, acc.toList, c', vals_rev rv hi, ?_⟩), rfl, q _ hfr⟩
  rw [Array.toArray_toList]
  exact hl'
theorem RpDs.reverse {K : KW} {G : Hp} : ∀ {ds : List D} {xs : List V}, RpDs K G ds xs → RpDs K G ds.reverse xs.reverse
  | [], _, h => by rw [show _ = _ from h]; exact rfl
  | d :: ds, _, ⟨v, r, h1, h2, h3⟩ => by
    subst h1
    rw [List.reverse_cons, List.reverse_cons]
    exact (RpDs.reverse h3).append ⟨v, [], rfl, h2, rfl⟩
def eListRev (f : EF) : EF := fun env => (f env).bind fun r => if isLT r.1 = true then (itemsT r.1).map fun ds => (.lst (ds.reverse.map T.p), r.2) else none
theorem dt_listRev {e : Expr} {te : TE} {f : EF} {p p2 pos pos2 : Pos} (hc : X.calm = true) (hg : Gl X "list") (hm : X.mg "list" = none) (hg2 : Gl X "reversed") (hm2 : X.mg "reversed" = none) (h : DV X e te f)
    (hv : bootBuiltins "list" = some (.type "list") := by decide +kernel)
    (hs : starEach [e] X.env = (false, eval e X.env) :: starEach [] X.env := by rfl)
    (hs2 : starEach [.Call (.Name "reversed" p2) [e] [] pos2] X.env = (false, eval (.Call (.Name "reversed" p2) [e] [] pos2) X.env) :: starEach [] X.env := by rfl) :
    DT X (.Call (.Name "list" p) [.Call (.Name "reversed" p2) [e] [] pos2] [] pos) (tListRev X.K te) (eListRev f) := by
  refine ⟨pe_listRev hc hg hm hg2 hm2 h.pe hv hs hs2, ?_⟩
  intro G0 H0 W H ts vs env σ t env' S g Q q
  obtain ⟨⟨u, e1⟩, h1, h2⟩ := obind g
  by_cases hk : isLT u = true
  · rw [if_pos (show isLT (u, e1).1 = true from hk)] at h2
    obtain ⟨ds, h3, h4⟩ := omap h2
    cases h4
    refine h.ok _ _ _ _ _ _ _ _ _ _ S h1 _ fun v H1 s1 S1 => ?_
    obtain ⟨G, ot, oe, s⟩ := S1
    obtain ⟨o, r⟩ := s.vw (u, v) (by simp)
    have s' : St0 X.kw G0 H0 W G H1 ts vs _ σ ot oe := ⟨s.tmp, s.env, s.nd, s.fr, s.g0, s.gh, s.h0, s.nw, fun q hq => s.vw q (List.mem_cons_of_mem _ hq)⟩
    have rp : ∃ a xs, v = .ref a ∧ SqL X.K H1 a xs ∧ RpDs X.kw G ds xs := by
      cases u with
      | p d =>
        cases d with
        | lst ds' =>
          cases h3
          obtain ⟨⟨a', xs', e1, e2, e3⟩, _⟩ := r
          exact ⟨a', xs', e1, s.gh.seq (.inl e2), e3⟩
        | tup ds' => cases hk
        | _ => cases h3
      | lst us =>
        have e := allP_eq (show allP us = some ds from h3)
        subst e
        obtain ⟨a', xs', o', e1, e2, e3, e4⟩ := r
        exact ⟨a', xs', e1, .inl (.inl e2), (rpDs_of e3).1⟩
      | tup us => cases hk
      | dic _ => cases h3
      | dit _ => cases h3
      | obj _ _ => cases h3
      | box _ _ => cases h3
      | al _ => cases h3
      | din _ => cases h3
    obtain ⟨a, xs, rfl, hx, hr⟩ := rp
    refine ⟨a, xs, rfl, hx, fun p hp => ?_⟩
    have hc := hr.reverse
    exact q _ _ (s1.trans (same_upd hp)) (OkS.newL (by rw [List.length_map]; exact hc.len) (OkS.pushD s' hc) hp)
  · rw [if_neg (show ¬ isLT (u, e1).1 = true from hk)] at h2; cases h2
theorem e_listRev {α : Type} {f : EF} {env e : Env} {t : T} {dd : α → D} {xs : List α} (h : f env = some (t, e)) (hi : itemsT t = some (xs.map dd)) (hl : isLT t = true) : eListRev f env = some (.lst ((xs.reverse.map dd).map T.p), e) := by
  show (f env).bind _ = _
  rw [h]
  show (if isLT t = true then (itemsT t).map _ else none) = _
  rw [if_pos hl, hi, List.map_reverse]; rfl
end
end DL
namespace DL
open PySem PySem.Spec PyProof.Rows L2
section
variable {α : Type} {lt : α → α → Bool}
end
end DL
namespace DL
open PySem PySem.Spec PyProof.Rows L2
structure DPs (X : Cx) (pos : Pos) (keys : List (Option Expr)) (values : List Expr) (trs : List (TE × TE)) (ks : List Str) (f : AF) : Prop where
  pp : PPs X pos keys values trs
  ok : ∀ (G0 H0 : Hp) (W : List (T × V)) (H : Hp) (ts : List T) (vs : List V) (env : Env) (σ : St) (us : List T) (env' : Env), OkS X.kw G0 H0 W H ts vs env σ → f env = some (us, env') →
    ∀ Q : List (V × V) → Hp → Prop, (∀ ws H', Same H H' → ws.length = us.length → ks.length = us.length → OkS X.kw G0 H0 W H' (us ++ ts) (ws ++ vs) env' σ → Q (((ks.map Sum.inr).zip ws).map fun kv : Key × V => (L2.kV kv.1, kv.2)) H') → tPairs trs σ H Q
section
variable {X : Cx} {pos : Pos} {k v : Expr} {keys : List (Option Expr)} {values : List Expr} {tk tv : TE} {trs : List (TE × TE)} {ks : List Str} {key : Str} {f : EF} {fr : AF}
end
end DL
namespace DL
open PySem PySem.Spec PyProof.Rows L2
set_option maxHeartbeats 1000000 in
theorem meets_enumT (l : Addr) (xs : Array Value) :
    Meets (Builtin.«enumerate.__new__» ⟨[.type "enumerate", .ref l], []⟩) (fun _ R s => s.heap.IsTuple l xs ∧
      R (.ok (.ret (.ref (s.heap.push { cls := .type "tuple_iterator", data := .fields #[.ref l, .int 0 0] }).objs.size)))
        { s with heap := (s.heap.push { cls := .type "tuple_iterator", data := .fields #[.ref l, .int 0 0] }).push { cls := .type "enumerate", data := .fields #[.none, .bool false, .ref s.heap.objs.size, rawInt 0, .none, .none] } }) :=
  .of_wp fun prog w A R s h => by
    obtain ⟨hp, g, d, tk, os⟩ := s
    obtain ⟨hl, h⟩ := h
    have hsub := sub_enumerate
    have hL : Heap.IsTuple (Shared.heap ⟨hp, g, d, tk, os⟩) l xs := hl
    wp_walk using wpAny_pyIter_tuple hL
    refine wpAny_stack_any fun st => wpAny_pure ?_
    split
    · rename_i c _ _ _ _ _
      cases (c == Value.type "enumerate")
      · wp_walk using wpAny_pyIter_tuple hL
        exact ⟨_, rfl, h⟩
      · wp_walk using wpAny_pyIter_tuple hL
        exact ⟨_, rfl, h⟩
    · wp_walk using wpAny_pyIter_tuple hL
      exact ⟨_, rfl, h⟩
section
variable {prog : Program} {w : World} {A : Around} {E : Value → Shared → Prop} {s : Shared}
end
end DL
namespace DL
open PySem PySem.Spec PyProof.Rows L2
section
variable {X : Cx} {elt tg iter : Expr} {ifs : List Expr} {scope : Scope} {own : List (Str × Nat)} {pos spos py : Pos} {tv : TE} {fv : EF} {g : Shared → Hp → Addr → List (Str × Addr) → List Addr → TG} {G : GF} {sl : List Nat} {tt : Shared → Hp → Addr → List (Str × Addr) → List Addr → TT} {ct : CF} {te : Shared → Hp → Addr → List (Str × Addr) → List Addr → TE} {fe : EF} {i : Nat} {y : Str}
end
end DL
namespace DL
open PySem PySem.Spec PyProof.Rows L2
def EvPw (K : KW) (s : TS) (F : SF) (sl : List Nat) : Prop := ∀ (G0 H0 : Hp) (W : List (T × V)) (H : Hp) (ts : List T) (vs : List V) (env : Env) (σ : St) (fl : Fl) (env' : Env), OkS K G0 H0 W H ts vs env σ → F env = some (fl, env') →
  ∀ D : Ends, (∀ H' σ', Same H H' → OkS K G0 H0 W H' ts vs env' σ' → Dif sl σ σ' → D.nx σ' H') → s D σ H
def OnlyNx (F : SF) : Prop := ∀ env fl e, F env = some (fl, e) → fl = .nx
structure DPw (X : Cx) (st : Stmt) (s : TS) (F : SF) (sl : List Nat) : Prop where
  ps : PS X st s
  ok : EvPw X.kw s F sl
  nx : OnlyNx F
structure DPws (X : Cx) (st : List Stmt) (s : TS) (F : SF) (sl : List Nat) : Prop where
  ps : PSs X st s
  ok : EvPw X.kw s F sl
  nx : OnlyNx F
section
variable {X : Cx} {e : Expr} {st : Stmt} {sts : List Stmt} {te : TE} {tc : TT} {f : EF} {c : CF} {t u : TS} {F1 F2 : SF} {pos : Pos} {sl sl2 : List Nat}
end
end DL
namespace DL
open PySem PySem.Spec PyProof.Rows L2
def ch3 (N : Nat) : List Addr := [N + 5, N + 3, N + 4, N, N + 1, N + 2]
structure Tn3 (a b c : Addr) (N i : Nat) (h : Heap) : Prop where
  zp : IsZip h (N + 5) (N + 3) (N + 4) .none
  pI : IsTupOf3 h (N + 3) (.ref N) (.ref (N + 1 : Nat)) (.ref (N + 2 : Nat))
  pO : ∃ u v w, IsTupOf3 h (N + 4) u v w
  i1 : h.IsTupleIter N a i
  i2 : h.IsListIter (N + 1) b i
  i3 : h.IsListIter (N + 2) c i
theorem Tn3.there {a b c : Addr} {N i : Nat} {h : Heap} (S : Tn3 a b c N i h) : ∀ x ∈ ch3 N, ∃ o, h.get? x = some o ∧ ∀ v, o.data ≠ .cell v := fun x hx => by
  obtain ⟨u, v, w, pO⟩ := S.pO
  obtain ⟨o1, g1, _, d1⟩ := S.i1
  obtain ⟨o2, g2, _, d2⟩ := S.i2
  obtain ⟨o3, g3, _, d3⟩ := S.i3
  simp only [ch3, List.mem_cons, List.not_mem_nil, or_false] at hx
  rcases hx with rfl | rfl | rfl | rfl | rfl | rfl
  · exact ⟨_, S.zp, fun _ q => nomatch q⟩
  · exact ⟨_, S.pI, fun _ q => nomatch q⟩
  · exact ⟨_, pO, fun _ q => nomatch q⟩
  · exact ⟨o1, g1, fun _ q => by rw [d1] at q; cases q⟩
  · exact ⟨o2, g2, fun _ q => by rw [d2] at q; cases q⟩
  · exact ⟨o3, g3, fun _ q => by rw [d3] at q; cases q⟩
end DL
namespace DL
open PySem PySem.Spec PyProof.Rows L2
end DL
namespace DL
open PySem PySem.Spec PyProof.Rows L2
section
variable {X : Cx} {pins : List (Addr × Obj)} {σ : L2.St} {H : Hp} {s : Shared} {d : Addr} {o : Obj}
end
end DL
namespace DL
open PySem PySem.Spec PyProof.Rows L2
theorem RpKt.get {K : KW} {G : Hp} : ∀ {kvs : List (List Key × D)} {xs : List (List Key × V)}, RpKt K G kvs xs → ∀ (i : Nat) (k : List Key) (d : D), kvs[i]? = some (k, d) → ∃ v, xs[i]? = some (k, v) ∧ RpD K G d v
  | [], _, _, i, _, _, e => by simp at e
  | (k, d) :: kvs, _, ⟨v, r, h1, h2, h3⟩, 0, _, _, e => by
    simp at e; obtain ⟨rfl, rfl⟩ := e; subst h1; exact ⟨v, rfl, h2⟩
  | (k, d) :: kvs, _, ⟨v, r, h1, h2, h3⟩, i + 1, k', d', e => by
    subst h1
    obtain ⟨v', f1, f2⟩ := RpKt.get h3 i k' d' (by simpa using e)
    exact ⟨v', by simpa using f1, f2⟩
section
variable {X : Cx} {elt tg : Expr} {ifs : List Expr} {scope : Scope} {own : List (Str × Nat)} {pos spos py npos apos cpos tpos : Pos} {elts : List Expr} {kk : Nat} {x : Str} {g : Shared → Hp → Addr → List (Str × Addr) → List Addr → TG} {G : GF} {sl : List Nat} {tt : Shared → Hp → Addr → List (Str × Addr) → List Addr → TT} {ct : CF} {te : Shared → Hp → Addr → List (Str × Addr) → List Addr → TE} {fe : EF} {i : Nat} {y : Str}
end
end DL
namespace DL
open PySem PySem.Spec PyProof.Rows L2
end DL
namespace DL
open PySem PySem.Spec PyProof.Rows L2
end DL
namespace DB
open PySem PySem.Spec PyProof.Rows L2
variable {X : Cx} {o : Expr} {p pos apos mpos : Pos} {td : TE}
end DB
namespace DL
open PySem PySem.Spec PyProof.Rows L2
end DL
namespace DL
open PySem PySem.Spec PyProof.Rows L2
end DL
namespace DL
open PySem PySem.Spec PyProof.Rows L2
section
variable {K : KW}
end
section
variable {P : Program} {w : World} {K : KW} {mg : Str → Option Value} {base : Heap}
end
def Link (ls : List (Option Nat)) (ws : List V) (σ : St) : Prop := ∀ j i : Nat, ls[j]? = some (some i) → ∃ v, ws[j]? = some v ∧ σ[i]? = some (some v)
structure DAL (X : Cx) (es : List Expr) (ta : TA) (f : AF) (ls : List (Option Nat)) : Prop where
  pa : PA X es ta
  ln : ls.length = es.length
  ok : ∀ (G0 H0 H : Hp) (ts : List T) (vs : List V) (env : Env) (σ : St) (us : List T) (env' : Env), OkS X.kw G0 H0 [] H ts vs env σ → f env = some (us, env') →
    ∀ Q : List V → Hp → Prop, (∀ ws H', ws.length = us.length → ls.length = us.length → OkS X.kw G0 H0 [] H' (us ++ ts) (ws ++ vs) env' σ → Link ls ws σ → Q ws H') → ta σ H Q
section
variable {X : Cx} {e : Expr} {es : List Expr} {te : TE} {ta tr : TA} {f : EF} {fa fr : AF} {ls : List (Option Nat)} {pos p npos : Pos} {x : Str}
end
section
variable {X : Cx} {k : Nat} {f : Addr} {fd : FuncData} {ps : List Str} {φ : List T → Option (T × List T)} {x : Str} {p pos : Pos} {e a b : Expr} {es : List Expr} {te ta tb : TE} {tr : TA} {fa : AF} {ls : List (Option Nat)} {g f1 f2 : EF}
end
def EvCX (K : KW) (tc : TT) (c : CF) : Prop := ∀ (G0 H0 H : Hp) (ts : List T) (vs : List V) (env : Env) (σ : St) (b : Bool) (env' : Env), OkS K G0 H0 [] H ts vs env σ → c env = some (b, env') →
  ∀ Q : Bool → Hp → Prop, (∀ H', OkS K G0 H0 [] H' ts vs env' σ → Q b H') → tc σ H Q
structure DCX (X : Cx) (e : Expr) (tc : TT) (c : CF) : Prop where
  pt : PT X e tc
  ok : EvCX X.kw tc c
structure DWX (X : Cx) (e : Expr) (tc : TT) (c : CF) : Prop where
  pt : PW X e tc
  ok : EvCX X.kw tc c
section
variable {X : Cx} {a b e : Expr} {rest : List Expr} {ta tb te : TE} {tc td : TT} {c d : CF} {f f1 f2 : EF} {pos : Pos}
theorem EvX.test {K : KW} (h : EvX K te f) : EvCX K (tTest te) (cT f) := by
  intro G0 H0 H ts vs env σ b env' S e Q q
  obtain ⟨⟨x, e2⟩, g3, g4⟩ := obind e
  have hx : x = .p (.bl b) ∧ e2 = env' := by
    cases x with
    | p d => cases d with
      | bl c => cases g4; exact ⟨rfl, rfl⟩
      | _ => cases g4
    | _ => cases g4
  obtain ⟨rfl, rfl⟩ := hx
  exact h _ _ _ _ _ _ _ _ _ S g3 _ fun v H' S1 => ⟨b, S1.top, q H' S1.pop⟩
end
end DL
namespace DL
open PySem PySem.Spec PyProof.Rows L2
end DL
namespace DL
open PySem PySem.Spec PyProof.Rows L2
def backW (i j : Nat) (ws : List Nat) (P : List Stp) (a : Addr) (s : Fl × Env) : Option (Fl × Env) := (backP i j P a s).map fun r => (r.1, wipeE r.2 ws)
open Classical in
noncomputable def sAlW (j i : Nat) (ws : List Nat) (fo : PF) (F : SF) : SF := fun env => (fo env).bind fun r => (atP r.2 i r.1).bind fun u => if isR u = true ∧ j < r.2.length then
  (if h : ∃ z, ∀ a : Addr, ((F ((putP r.2 i r.1 (.al (a + 1))).set j (some u))).bind (backW i j ws r.1 a)) = some z then some h.choose else none) else none
theorem sAlW_eq {j i : Nat} {ws : List Nat} {fo : PF} {F : SF} {env e1 : Env} {P : List Stp} {u : T} {z : Fl × Env} (h1 : fo env = some (P, e1)) (h2 : atP e1 i P = some u) (h3 : isR u = true ∧ j < e1.length) (h : ∀ a : Addr, ((F ((putP e1 i P (.al (a + 1))).set j (some u))).bind (backW i j ws P a)) = some z) : sAlW j i ws fo F env = some z := by
  unfold sAlW
  rw [h1]
  show (atP e1 i P).bind _ = _
  rw [h2]
  show (if isR u = true ∧ j < e1.length then _ else _) = _
  rw [if_pos h3]
  have he : ∃ z, ∀ a : Addr, ((F ((putP e1 i P (.al (a + 1))).set j (some u))).bind (backW i j ws P a)) = some z := ⟨z, h⟩
  rw [dif_pos he]
  have := he.choose_spec 0
  rw [h 0] at this
  exact this.symm
theorem backW_ok {K : KW} {G0 H0 H : Hp} {ts : List T} {vs : List V} {e2 env' : Env} {σ : St} {i j : Nat} {ws : List Nat} {P : List Stp} {a : Addr} {fl fl' : Fl} (h : backW i j ws P a (fl, e2) = some (fl', env')) (S : OkS K G0 H0 [] H ts vs e2 σ) (hj : σ[j]? = some (some (.ref a))) : fl' = fl ∧ OkS K G0 H0 [] H ts vs env' σ := by
  obtain ⟨⟨f3, e3⟩, h1, h2⟩ := omap h
  cases h2
  obtain ⟨e9, S4⟩ := backP_ok h1 S hj
  exact ⟨e9, S4.forget ws⟩
theorem dss_alW (ws : List Nat) {X : Cx} {o : Expr} {to : TE} {fo : PF} {i j : Nat} {y : Str} {pos pos' : Pos} {rest : List Stmt} {tr : TS} {F : SF} {sl : List Nat} (hN : X.N.Nodup) (hi : X.N[j]? = some y) (hx : Loc X.env.scope y) (ho : DP X o to i fo) (hr : DSs X rest tr F sl) (hj : j ∉ sl)
    (hs : swapsWith o (some (.Name y pos')) pos.line X.env = pure false := by rfl) (hf : X.fn y = true ∨ X.env.scope.names.lookup y = some .local := by first | exact .inl rfl | exact .inr rfl | assumption) :
    DSs X (.Assign [.Name y pos'] o pos :: rest) (tSeq (tAsg to (gName j)) tr) (sAlW j i ws fo F) ([j] ++ sl) := by
  refine ⟨pss_cons (ps_set hN hi hx ho.pe hs hf) hr.ps, ?_⟩
  intro G0 H0 H ts vs env σ fl env' S g D q
  unfold sAlW at g
  obtain ⟨⟨P, e1⟩, g1, g2⟩ := obind g
  obtain ⟨u, g3, g4⟩ := obind g2
  split at g4
  · rename_i hru
    split at g4
    · rename_i hz
      have hch := hz.choose_spec
      have e0 : hz.choose = (fl, env') := Option.some.inj g4
      rw [e0] at hch
      refine ho.ok _ _ _ _ _ _ _ _ _ _ S g1 _ fun v w H1 s1 S1 hv hc => ?_
      obtain ⟨v2, w2, hv2, hc2, ⟨G, oo, _, r⟩, _⟩ := S1.chg g3
      rw [hv] at hv2; cases hv2
      have ew := hc.det hc2
      subst ew
      obtain ⟨a, rfl⟩ := isR_ref hru.1 r
      have S2 := S1.moveW g3 hv hc (.al (a + 1)) (fun G => ⟨fun _ => rfl, rfl⟩)
      have hlen : j < (putP e1 i P (.al (a + 1))).length := by
        obtain ⟨t, k1, _⟩ := atP_eq g3
        rw [putP_eq k1, List.length_set]; exact hru.2
      have S3 := S2.put (i := j) hlen
      have hl2 : j < e1.length := hru.2
      have hσl : j < σ.length := by rw [S1.len]; exact hl2
      obtain ⟨⟨fl2, e2⟩, k1, k2⟩ := obind (hch a)
      refine hr.ok _ _ _ _ _ _ _ _ _ S3 k1 _ ?_
      have hσj : ∀ σ', Dif sl (σ.set j (some (V.ref a))) σ' → σ'[j]? = some (some (V.ref a)) := fun σ' df => by
        rw [df.2 j hj, List.getElem?_set_self hσl]
      have dd : ∀ σ', Dif sl (σ.set j (some (V.ref a))) σ' → Dif ([j] ++ sl) σ σ' := fun σ' df => Dif.tr Dif.set df
      cases fl2 with
      | nx => intro H' σ' S' df; obtain ⟨e9, S4⟩ := backW_ok k2 S' (hσj σ' df); subst e9; exact q H' σ' S4 (dd σ' df)
      | bk => intro H' σ' S' df; obtain ⟨e9, S4⟩ := backW_ok k2 S' (hσj σ' df); subst e9; exact q H' σ' S4 (dd σ' df)
      | ct => intro H' σ' S' df; obtain ⟨e9, S4⟩ := backW_ok k2 S' (hσj σ' df); subst e9; exact q H' σ' S4 (dd σ' df)
      | rt t => intro v' H' σ' S' df; obtain ⟨e9, S4⟩ := backW_ok k2 S' (hσj σ' df); subst e9; exact q v' H' σ' S4 (dd σ' df)
    · cases g4
  · cases g4
end DL
namespace DL
open PySem PySem.Spec PyProof.Rows L2
section
variable {X : Cx} {elt tg : Expr} {ifs : List Expr} {scope : Scope} {own : List (Str × Nat)} {pos spos py npos apos cpos tpos : Pos} {elts : List Expr} {kk : Nat} {x : Str} {g : Shared → Hp → Addr → List (Str × Addr) → List Addr → TG} {G : GF} {sl : List Nat} {tt : Shared → Hp → Addr → List (Str × Addr) → List Addr → TT} {ct : CF} {te : Shared → Hp → Addr → List (Str × Addr) → List Addr → TE} {fe : EF} {i : Nat} {y : Str}
end
end DL
namespace DL
open PySem PySem.Spec PyProof.Rows L2
section
variable {X : Cx} {elt tg : Expr} {ifs : List Expr} {scope : Scope} {own : List (Str × Nat)} {pos spos py npos apos cpos tpos : Pos} {elts : List Expr} {kk : Nat} {x : Str} {g : Shared → Hp → Addr → List (Str × Addr) → List Addr → TG} {G : GF} {sl : List Nat} {tt : Shared → Hp → Addr → List (Str × Addr) → List Addr → TT} {ct : CF} {te : Shared → Hp → Addr → List (Str × Addr) → List Addr → TE} {fe : EF} {i j : Nat} {y : Str}
end
end DL
namespace DL
open PySem PySem.Spec PyProof.Rows L2
section
variable {X : Cx} {k : Nat} {f : Addr} {fd : FuncData} {ps : List Str} {n : Nat} {φ : List D → Option T} {x : Str} {p npos pos : Pos} {e a b : Expr} {es : List Expr} {ta tb tr : TA} {fa fb fr : AF}
end
section
variable {X : Cx} {a b : Expr} {ta tb : TE} {fa fb : EF} {pos : Pos}
end
def EvIX (K : KW) (wi : TI) (f : IF) : Prop := ∀ (G0 H0 : Hp) (H : Hp) (ts : List T) (vs : List V) (env : Env) (σ : St) (ds : List D) (env' : Env), OkS K G0 H0 [] H ts vs env σ → f env = some (ds, env') →
  ∀ R : It → Hp → Prop, (∀ J H' G1, Gst G0 H0 G1 → ItOk K G1 J ds → OkS K G1 H0 [] H' ts vs env' σ → R J H') → wi σ H R
structure DIX (X : Cx) (tg it : Expr) (wi : TI) (f : IF) : Prop where
  pi : PI X tg it wi
  ok : EvIX X.kw wi f
end DL
namespace DL
open PySem PySem.Spec PyProof.Rows L2
section
variable {X : Cx} {e o k : Expr} {te to tk : TE} {f fk : EF} {fo : PF} {i : Nat} {pos ipos tpos : Pos}
end
end DL
namespace DL
open PySem PySem.Spec PyProof.Rows L2
section
variable {K : KW} {G0 H0 H : Hp} {W : List (T × V)} {ts us : List T} {vs : List V} {env : Env} {σ : St} {v : V}
end
end DL
namespace DL
open PySem PySem.Spec PyProof.Rows L2
end DL
namespace DL
open PySem PySem.Spec PyProof.Rows L2
section
variable {X : Cx} {e o k : Expr} {te to tk : TE} {f fk : EF} {fo : PF} {i : Nat} {pos cpos apos ipos tpos : Pos}
end
end DL
namespace DL
open PySem PySem.Spec PyProof.Rows L2
section
variable {X : Cx} {a : Expr} {ta : TE} {fa : EF} {npos pos : Pos}
end
end DL
namespace DL
open PySem PySem.Spec PyProof.Rows L2
def EvJ (K : KW) (wi : TI) (f : IF) : Prop := ∀ (G0 H0 : Hp) (H : Hp) (ts : List T) (vs : List V) (env : Env) (σ : St) (ds : List D) (env' : Env), OkS K G0 H0 [] H ts vs env σ → f env = some (ds, env') →
  ∀ R : It → Hp → Prop, (∀ J H' G1, Gst G0 H0 G1 → ItOk K G1 J ds → OkS K G1 H0 [] H' ts vs env' σ → R J H') → wi σ H R
structure DJ (X : Cx) (tg it : Expr) (wi : TI) (f : IF) : Prop where
  pi : PI X tg it wi
  ok : EvJ X.kw wi f
end DL
namespace DL
open PySem PySem.Spec PyProof.Rows L2
end DL
set_option maxHeartbeats 2000000
namespace DL
open PySem PySem.Spec PyProof.Rows L2 L2.DX PySem.W
end DL
namespace DL
open PySem PySem.Spec PyProof.Rows L2 L2.DX
theorem OkS.ext {K : KW} {G0 H0 H H' : Hp} {W : List (T × V)} {ts : List T} {vs : List V} {env : Env} {σ : L2.St} (S : OkS K G0 H0 W H ts vs env σ) (e : Same H H') : OkS K G0 H0 W H' ts vs env σ := by
  obtain ⟨G, ot, oe, s⟩ := S
  have th : ∀ a ∈ ot ++ oe, H' a = H a := fun a ha => by
    obtain ⟨x, ex, _⟩ : ∃ x, H a = some x ∧ ¬ Fix x := by
      rcases List.mem_append.mp ha with h | h
      · exact s.tmp.there _ a h
      · exact s.env.there _ a h
    rw [ex]; exact e _ _ ex
  exact ⟨G, ot, oe, s.tmp.mono (Same.refl _) _ fun a h => th a (by simp [h]), s.env.mono (Same.refl _) _ fun a h => th a (by simp [h]), s.nd, s.fr, s.g0, s.gh.trans e, s.h0.trans e, s.nw, fun q hq => by
    obtain ⟨o, r⟩ := s.vw q hq
    exact ⟨o, r.mono (Same.refl _) _ fun a ha => by
      obtain ⟨x, ex, _⟩ := r.there _ a ha
      rw [ex]; exact e _ _ ex⟩⟩
end DL
namespace DL
open PySem PySem.Spec PyProof.Rows L2
section
variable {X : Cx} {tg e o ei : Expr} {te to ti : TE} {ta : TA} {f : EF} {fa : AF} {fo : PF} {i : Nat} {p pos apos cpos : Pos}
def sInsP (i : Nat) (fo : PF) (fa : AF) : SF := fun env => (fo env).bind fun r => (atP r.2 i r.1).bind fun t0 => match unb t0 with
  | .lst _ => (fa r.2).bind fun s => (atP s.2 i r.1).bind fun t => match unb t, s.1 with
    | .lst us, [.p (.int n), y] => if us.length < 16000000 ∧ 0 ≤ n ∧ n < 9223372036854775808 then some (.nx, putP s.2 i r.1 (reb t (.lst (us.take n.toNat ++ [y] ++ us.drop n.toNat)))) else none
    | _, _ => none
  | _ => none
def rIns : V → List V → Hp → VK → Prop := fun x vs H Q => ∃ (l : Addr) (xs : List V) (i : Int) (y : V), x = .ref l ∧ vs = [.int i, y] ∧ H l = some (.lst xs) ∧ xs.length < sizeLine ∧ 0 ≤ i ∧ i < 2 ^ 63 ∧
    Q .non (upd H l (.lst (xs.take i.toNat ++ [y] ++ xs.drop i.toNat)))
theorem ds_insP (ho : DP X o to i fo) (h : DA X [ei, e] ta fa) (hb : attributeBase o "insert" X.env (eval o X.env) = eval o X.env := by rfl)
    (hse : starEach [ei, e] X.env = (false, eval ei X.env) :: starEach [e] X.env := by rfl)
    (hfew : ((backTo cpos (starEach [ei, e] X.env)).all (fun x => !x.1) && (backToKw cpos (keywordEach [] X.env)).all (fun x => x.1.isSome)
      && decide ([ei, e].length + ([] : List Keyword).length + (if ([] : List Keyword).isEmpty then 0 else 1) < 30)) = true := by rfl)
    (hline : (apos.endLine == cpos.line) = true := by rfl) (hpl : (backTo cpos (starEach [e] X.env)).any (·.1) = false := by rfl)
    (hs : swapsWith (.Call (.Attribute o "insert" apos) [ei, e] [] cpos) none pos.line X.env = pure false := by rfl) :
    DS X (.Expr (.Call (.Attribute o "insert" apos) [ei, e] [] cpos) pos) (tDrop (tBM X.K "list" rIns to ta)) (sInsP i fo fa) [] := by
  refine ⟨ps_expr (pe_bm PySem.F.plainAttrs_list PySem.F.slot_list_insert PySem.F.type_list_insert mt_insert ho.pe h.pa hb hfew hline hse hpl) hs, ?_⟩
  intro G0 H0 H ts vs env σ fl env' S g D q
  obtain ⟨⟨P, e1⟩, g1, g2⟩ := obind g
  obtain ⟨t0, g3, g4⟩ := obind g2
  dsimp only at g4
  split at g4
  · rename_i us0 hu0
    obtain ⟨⟨ys, e2⟩, g5, g6⟩ := obind g4
    obtain ⟨t, g7, g8⟩ := obind g6
    dsimp only at g8
    split at g8
    · rename_i us n y hu
      split at g8
      · rename_i hl
        cases g8
        refine ho.ok _ _ _ _ _ _ _ _ _ _ S g1 _ fun v w H1 s1 S1 hv hc => ?_
        obtain ⟨tt0, k1, k2⟩ := atP_eq g3
        obtain ⟨G, o1, r, sG⟩ := S1.at' k1 k2 hv hc
        have r := r.unb
        rw [hu0] at r
        obtain ⟨a, xs0, o', h1, h2, _⟩ := r
        subst h1
        refine ⟨.inl ⟨rfl, xs0, .inl (.inl h2)⟩, ?_⟩
        refine h.ok _ _ _ _ _ _ _ _ _ _ S1 g5 _ fun ws H2 s2 hwl S2 => ?_
        match ws, hwl with
        | [w1, w2], _ =>
          obtain ⟨tt, k3, k4⟩ := atP_eq g7
          obtain ⟨G2, p1, p2, r1, r2, nd, sG2, fr, wr⟩ := OkS.wr (es := [.p (.int n), y]) (ws := [w1, w2]) S2 rfl k3 k4 hv (hc.same s2)
          have ru := r1.unb
          rw [hu] at ru
          obtain ⟨a', xs, o2, h1', h2', h3', h4'⟩ := ru
          cases h1'
          subst h4'
          obtain ⟨wa, wr', oa, ob, f1, f2, f3, f4⟩ := r2
          cases f1
          have e1 : w1 = .int n := f2.1
          have e0 : oa = [] := f2.2
          subst e1 e0
          have f4 : p2 = ob := f4
          subst f4
          have nd' : (a :: (o2 ++ p2)).Nodup := nd
          have na : a ∉ o2 ++ p2 := (List.nodup_cons.mp nd').1
          have hlen := h3'.len
          have hsp : RpTs X.kw G2 H2 (us.take n.toNat ++ us.drop n.toNat) (xs.take n.toNat ++ xs.drop n.toNat) o2 := by rw [List.take_append_drop, List.take_append_drop]; exact h3'
          obtain ⟨oA, oB, q1, q2, q3⟩ := hsp.split (by rw [List.length_take, List.length_take, hlen])
          subst q3
          refine ⟨a, xs, n, w2, rfl, rfl, h2', by rw [hlen, sizeLine_eq]; omega, hl.2.1, by have := hl.2.2; omega, ?_⟩
          have r3 := ((q1.append f3).append q2).mono (Same.refl G2) (H' := upd H2 a (.lst (xs.take n.toNat ++ [w2] ++ xs.drop n.toNat))) _ (wN (a := a) (by simp at na ⊢; exact ⟨na.1, na.2.2, na.2.1⟩))
          have S3 := wr a (.lst (xs.take n.toNat ++ [w2] ++ xs.drop n.toNat)) (reb t (.lst (us.take n.toNat ++ [y] ++ us.drop n.toNat))) [] [] (a :: (oA ++ p2 ++ oB)) [] [] (by simp) (r1.reb ⟨a, _, _, rfl, upd_same, r3, rfl⟩) ⟨rfl, rfl⟩ (by
            rw [List.append_nil, List.append_nil]
            refine List.Perm.cons a ?_
            show ((oA ++ oB) ++ p2).Perm (oA ++ p2 ++ oB)
            rw [List.append_assoc, List.append_assoc]
            exact List.Perm.append_left _ List.perm_append_comm)
          rw [← putP_eq k3] at S3
          exact q _ _ S3 .rfl'
      · cases g8
    · cases g8
  · cases g4
end
end DL
namespace DL
open PySem PySem.Spec PyProof.Rows L2
section
variable {X : Cx} {e e2 : Expr} {te : TE} {ta : TA} {f : EF} {fa : AF} {p pos tpos : Pos} {elts : List Expr} {kk : Nat}
end
section
variable {X : Cx} {e : Expr} {te : TE} {f : EF} {p pos : Pos}
end
end DL
namespace ZG
open PySem PySem.Spec PyProof.Rows L2
open PySem.Sem (wp)
def SqB (K : PySem.W.Frag) (H : Hp) (a : Addr) (xs : List V) : Bool → Prop
  | false => SqL K H a xs
  | true => SqT K H a xs
def ArB (h : Heap) (a : Addr) (xs : Array Value) : Bool → Prop
  | false => h.IsList a xs
  | true => h.IsTuple a xs
def ItB (h : Heap) (it a : Addr) (k : Nat) : Bool → Prop
  | false => h.IsListIter it a k
  | true => h.IsTupleIter it a k
theorem SqB.mono {K : PySem.W.Frag} {G H : Hp} {a : Addr} {xs : List V} {b : Bool} (s : Same G H) (h : SqB K G a xs b) : SqB K H a xs b := by
  cases b with
  | false => exact s.seq h
  | true => exact DL.Same.sqT s h
theorem ArB.at {h h' : Heap} {a : Addr} {xs : Array Value} {b : Bool} (x : ArB h a xs b) (e : ∀ o, h.get? a = some o → h'.get? a = some o) : ArB h' a xs b := by
  cases b with
  | false => exact Heap.IsList.at x e
  | true => exact Heap.IsTuple.at x e
theorem ItB.at {h h' : Heap} {it a : Addr} {k : Nat} {b : Bool} (x : ItB h it a k b) (e : ∀ o, h.get? it = some o → h'.get? it = some o) : ItB h' it a k b := by
  cases b with
  | false => exact Heap.IsListIter.at x e
  | true => exact Heap.IsTupleIter.at x e
theorem ItB.there {h : Heap} {it a : Addr} {k : Nat} {b : Bool} (x : ItB h it a k b) : ∃ o, h.get? it = some o ∧ ∀ v, o.data ≠ .cell v := by
  cases b with
  | false => obtain ⟨o, g, _, d⟩ := x; exact ⟨o, g, fun _ q => by rw [d] at q; cases q⟩
  | true => obtain ⟨o, g, _, d⟩ := x; exact ⟨o, g, fun _ q => by rw [d] at q; cases q⟩
structure StB (p q : Bool) (a b : Addr) (n k : Nat) (h : Heap) : Prop where
  zp : IsZip h (n + 4) (n + 2) (n + 3) .none
  pI : IsPair h (n + 2) (.ref n) (.ref (n + 1))
  pO : ∃ u v, IsPair h (n + 3) u v
  i1 : ItB h n a k p
  i2 : ItB h (n + 1) b k q
theorem StB.there {p q : Bool} {a b : Addr} {n k : Nat} {h : Heap} (S : StB p q a b n k h) : ∀ c ∈ chainZ n, ∃ o, h.get? c = some o ∧ ∀ v, o.data ≠ .cell v := fun c hc => by
  obtain ⟨u, v, pO⟩ := S.pO
  simp only [chainZ, List.mem_cons, List.not_mem_nil, or_false] at hc
  rcases hc with rfl | rfl | rfl | rfl | rfl
  · exact ⟨_, S.zp, fun _ q => nomatch q⟩
  · exact ⟨_, S.pI, fun _ q => nomatch q⟩
  · exact ⟨_, pO, fun _ q => nomatch q⟩
  · exact S.i1.there
  · exact S.i2.there
theorem ArB.push {h : Heap} {a : Addr} {xs : Array Value} {b : Bool} (x : ArB h a xs b) (o : Obj) : ArB (h.push o) a xs b := x.at fun _ e => Heap.get?_push_of_some _ e
end ZG
namespace DL
open PySem PySem.Spec PyProof.Rows L2
section
variable {K : DL.KW} {G1 : Hp}
end
section
variable {X : Cx} {tg e e2 : Expr} {ta : TA} {fa : AF} {p pos tpos : Pos} {elts : List Expr} {kk : Nat}
end
end DL
namespace DL
open PySem PySem.Spec PyProof.Rows L2
end DL
set_option maxHeartbeats 1000000
namespace DL
open PySem PySem.Spec PyProof.Rows L2
section
variable {P : Program} {w : World} {K : KW} {mg : Str → Option Value} {base : Heap}
end
section
variable {X : Cx} {nm : Str} {e : Expr} {es : List Expr} {ta : TA} {fa : AF} {p pos : Pos} {x : Str} {C f : Addr} {k n : Nat} {fd : FuncData} {ps : List Str} {φ : T → List T → Option (T × T)}
end
end DL
set_option maxHeartbeats 2000000
namespace DL
open PySem PySem.Spec PyProof.Rows L2
end DL
namespace DL
open PySem PySem.Spec PyProof.Rows L2
def whileD (c : CF) (F : SF) : Nat → Env → Option (Fl × Env)
  | 0, _ => none
  | n + 1, env => (c env).bind fun r => if r.1 = true then (F r.2).bind fun z => match z.1 with
    | .nx => whileD c F n z.2
    | .ct => whileD c F n z.2
    | .bk => some (.nx, z.2)
    | .rt t => some (.rt t, z.2)
    else some (.nx, r.2)
@[irreducible] def fuelW : Nat := 1000000
def sWh (n : Nat) (c : CF) (F : SF) : SF := whileD c F n
theorem ds_while {X : Cx} {c : Expr} {body : List Stmt} {tc : TT} {tb : TS} {fc : CF} {F : SF} {pos : Pos} {sl : List Nat} {n : Nat} (hp : PassesOwn (model X.prog X.w) X.A X.env X.xe) (hc : DC X c tc fc) (hb : DSs X body tb F sl) : DS X (.While c body [] pos) (tWhile tc tb) (sWh n fc F) sl := by
  refine ⟨ps_while hp hc.pt hb.ps, ?_⟩
  intro G0 H0 H ts vs env σ fl env' S e D q
  refine ⟨fun m σ2 H2 => Dif sl σ σ2 ∧ ∃ env2, OkS X.kw G0 H0 [] H2 ts vs env2 σ2 ∧ whileD fc F m env2 = some (fl, env'), ⟨n, .rfl', env, S, e⟩, ?_⟩
  rintro m σ2 H2 ⟨df, env2, S2, hl⟩
  cases m with
  | zero => cases hl
  | succ m =>
    obtain ⟨⟨b, e3⟩, g1, g2⟩ := obind hl
    refine hc.ok _ _ _ _ _ _ _ _ _ _ S2 g1 _ fun H3 s3 S3 => ?_
    cases b with
    | true =>
      rw [if_pos rfl]
      obtain ⟨⟨fl2, e4⟩, l3, l4⟩ := obind (show (F e3).bind _ = _ from g2)
      refine ⟨fun σ' H' => Dif sl σ σ' ∧ ∃ env2, OkS X.kw G0 H0 [] H' ts vs env2 σ' ∧ whileD fc F m env2 = some (fl, env'), fun σ' H' h => ⟨m, Nat.lt_succ_self _, h⟩, ?_⟩
      refine hb.ok _ _ _ _ _ _ _ _ _ S3 l3 _ ?_
      cases fl2 with
      | nx => exact fun H' σ4 S4 f2 => ⟨df.two f2, e4, S4, l4⟩
      | ct => exact fun H' σ4 S4 f2 => ⟨df.two f2, e4, S4, l4⟩
      | bk => cases l4; exact fun H' σ4 S4 f2 => q H' σ4 S4 (df.two f2)
      | rt t => cases l4; exact fun v H' σ' S4 f2 => q v H' σ' S4 (df.two f2)
    | false =>
      rw [if_neg (by simp)]
      cases g2
      exact q H3 σ2 S3 df
end DL
namespace DL
open PySem PySem.Spec PyProof.Rows L2
section
variable {X : Cx} {a b : Expr} {ta tb : TE} {fa fb : EF} {pos : Pos}
end
end DL
namespace DL
open PySem PySem.Spec PyProof.Rows L2
end DL
namespace DL
open PySem PySem.Spec PyProof.Rows L2
section
variable {X : Cx} {e : Expr} {te : TE} {f : EF} {p pos : Pos}
end
end DL
set_option maxHeartbeats 1000000
namespace DL
open PySem PySem.Spec PyProof.Rows L2
abbrev NK := NestedKey
section
variable {P : Program} {w : World} {H : Hp} {h : Heap}
def NKs (H : Hp) (ws : List (NK × Addr × V)) : Prop := ∀ x ∈ ws, x.1.depth ≤ 8 ∧ NkV H x.1 (.ref x.2.1)
abbrev NR : List (NK × Addr × V) → List (NK × Addr × Value) → Prop := Paired fun p q => p.1 = q.1 ∧ p.2.1 = q.2.1 ∧ RelV p.2.2 q.2.2
end
def valN (ws : List (NK × Addr × V)) (k : NK) : Option V := (ws.find? fun x => decide (x.1 = k)).map (·.2.2)
def putW (ws : List (NK × Addr × V)) (k : NK) (b : Addr) (v : V) : List (NK × Addr × V) := if (ws.any fun x => decide (x.1 = k)) = true then ws.map (fun x => if x.1 = k then (x.1, x.2.1, v) else x) else ws ++ [(k, b, v)]
theorem valN_any (ws : List (NK × Addr × V)) (k : NK) : (ws.any fun x => decide (x.1 = k)) = (valN ws k).isSome := by
  induction ws with
  | nil => rfl
  | cons x ws ih =>
    by_cases c : x.1 = k
    · simp [valN, List.find?_cons, c]
    · simp [valN, List.find?_cons, c] at ih ⊢
      exact ih
theorem NR.val {ws : List (NK × Addr × V)} {xs : List (NK × Addr × Value)} (r : NR ws xs) (k : NK) : RelO (valN ws k) ((atKey xs k).map (·.2)) := by
  induction r with
  | nil => exact True.intro
  | @cons p q ps qs h t ih =>
    obtain ⟨h1, _, h2⟩ := h
    by_cases e : p.1 = k
    · have e' : q.1 = k := h1.symm.trans e
      have b : atKey (q :: qs) k = some q.2 := by simp [atKey, List.find?_cons, e']
      have c : valN (p :: ps) k = some p.2.2 := by simp [valN, List.find?_cons, e]
      rw [c, b]; exact h2
    · have e' : ¬ q.1 = k := fun z => e (h1.trans z)
      have b : atKey (q :: qs) k = atKey qs k := by simp [atKey, List.find?_cons, e']
      have c : valN (p :: ps) k = valN ps k := by simp [valN, List.find?_cons, e]
      rw [c, b]; exact ih
theorem NR.repl {ws : List (NK × Addr × V)} {xs : List (NK × Addr × Value)} (r : NR ws xs) (k : NK) {y : V} {u : Value} (ry : RelV y u) : NR (ws.map fun x => if x.1 = k then (x.1, x.2.1, y) else x) (xs.map (putAt k u)) := by
  induction r with
  | nil => exact .nil
  | @cons p q ps qs h t ih =>
    rw [List.map_cons, List.map_cons]
    refine .cons ?_ ih
    obtain ⟨h1, h2, h3⟩ := h
    unfold putAt
    by_cases e : p.1 = k
    · rw [if_pos e, if_pos (h1.symm.trans e)]; exact ⟨h1, h2, ry⟩
    · rw [if_neg e, if_neg (fun z => e (h1.trans z))]; exact ⟨h1, h2, h3⟩
theorem NR.put {ws : List (NK × Addr × V)} {xs : List (NK × Addr × Value)} (r : NR ws xs) (k : NK) (b : Addr) {y : V} {u : Value} (ry : RelV y u) : NR (putW ws k b y) (storedH xs k b u) := by
  have e : (ws.any fun x => decide (x.1 = k)) = (atKey xs k).isSome := by
    rw [valN_any, (r.val k).isSome_eq, Option.isSome_map]
  unfold putW storedH
  rw [e]
  by_cases q : (atKey xs k).isSome = true
  · rw [if_pos q, if_pos q]; exact r.repl k ry
  · rw [if_neg q, if_neg q]; exact Paired.snoc r ⟨rfl, rfl, ry⟩
section
variable {X : Cx} {pins : List (Addr × Obj)} {σ : St} {H : Hp} {s : Shared} {a : Addr} {y v : V} {u r : Value} {o : Option V} {E : Value → Shared → Prop}
end
section
variable {X : Cx} {o i e value : Expr} {pos pos' tpos : Pos} {td ty tv : TE}
end
end DL
namespace DL
open PySem PySem.Spec PyProof.Rows L2
section
variable {X : Cx} {k v : Expr} {tk tv : TE} {pos : Pos}
end
mutual
def nkD : D → Option NK
  | .non => some .none
  | .bl b => some (.num (if b = true then 1 else 0))
  | .int i => some (.num i)
  | .str x => some (.text x)
  | .tup ds => (nkDs ds).map .tup
  | .tux ds => (nkDs ds).map .tup
  | _ => none
def nkDs : List D → Option (List NK)
  | [] => some []
  | d :: ds => (nkD d).bind fun k => (nkDs ds).map (k :: ·)
end
def valDn (kvs : List (NK × D)) (k : NK) : Option D := (kvs.find? fun kv => decide (kv.1 = k)).map (·.2)
def putDn (kvs : List (NK × D)) (k : NK) (d : D) : List (NK × D) := if (kvs.any fun kv => decide (kv.1 = k)) = true then kvs.map (fun kv => if kv.1 = k then (kv.1, d) else kv) else kvs ++ [(k, d)]
section
variable {K : KW} {G : Hp}
theorem RpKn.keys : ∀ {kvs : List (NK × D)} {ws : List (NK × Addr × V)}, RpKn K G kvs ws → NKs G ws
  | [], _, h => by rw [show _ = [] from h]; intro x hx; cases hx
  | (k, d) :: r, _, ⟨b, v, s, e, h1, h2, _, h3⟩ => by
    subst e
    intro x hx
    rcases List.mem_cons.mp hx with e | hx
    · subst e; exact ⟨h1, h2⟩
    · exact RpKn.keys h3 x hx
theorem RpKn.length : ∀ {kvs : List (NK × D)} {ws : List (NK × Addr × V)}, RpKn K G kvs ws → ws.length = kvs.length
  | [], _, h => by rw [show _ = [] from h]; rfl
  | (k, d) :: r, _, ⟨b, v, s, e, h1, h2, _, h3⟩ => by subst e; simp [RpKn.length h3]
theorem RpKn.any (k : NK) : ∀ {kvs : List (NK × D)} {ws : List (NK × Addr × V)}, RpKn K G kvs ws → (ws.any fun x => decide (x.1 = k)) = kvs.any fun kv => decide (kv.1 = k)
  | [], _, h => by rw [show _ = [] from h]; rfl
  | (j, d) :: r, _, ⟨b, v, s, e, h1, h2, _, h3⟩ => by subst e; rw [List.any_cons, List.any_cons, RpKn.any k h3]
theorem RpKn.val (k : NK) : ∀ {kvs : List (NK × D)} {ws : List (NK × Addr × V)}, RpKn K G kvs ws → (valDn kvs k = none → valN ws k = none) ∧ ∀ d, valDn kvs k = some d → ∃ v, valN ws k = some v ∧ RpD K G d v
  | [], _, h => by rw [show _ = [] from h]; exact ⟨fun _ => rfl, fun d h => (nomatch h)⟩
  | (j, e) :: r, _, ⟨b, w, r', h1, h5, h6, h2, h3⟩ => by
    subst h1
    by_cases c : j = k
    · have e1 : valDn ((j, e) :: r) k = some e := by simp [valDn, List.find?_cons, c]
      have e2 : valN ((j, b, w) :: r') k = some w := by simp [valN, List.find?_cons, c]
      rw [e1, e2]
      exact ⟨fun h => (nomatch h), fun d h => by cases h; exact ⟨w, rfl, h2⟩⟩
    · have e1 : valDn ((j, e) :: r) k = valDn r k := by simp [valDn, List.find?_cons, c]
      have e2 : valN ((j, b, w) :: r') k = valN r' k := by simp [valN, List.find?_cons, c]
      rw [e1, e2]
      exact RpKn.val k h3
theorem RpKn.upd (k : NK) {d : D} {v : V} (hv : RpD K G d v) : ∀ {kvs : List (NK × D)} {ws : List (NK × Addr × V)}, RpKn K G kvs ws → RpKn K G (kvs.map (fun kv => if kv.1 = k then (kv.1, d) else kv)) (ws.map (fun x => if x.1 = k then (x.1, x.2.1, v) else x))
  | [], _, h => by rw [show _ = [] from h]; exact rfl
  | (j, e) :: r, _, ⟨b, w, r', h1, h5, h6, h2, h3⟩ => by
    subst h1
    rw [List.map_cons, List.map_cons]
    have ih := RpKn.upd k hv h3
    by_cases c : j = k
    · rw [if_pos c, if_pos c]; exact ⟨b, v, _, rfl, h5, h6, hv, ih⟩
    · rw [if_neg c, if_neg c]; exact ⟨b, w, _, rfl, h5, h6, h2, ih⟩
theorem RpKn.app {k : NK} {b : Addr} {d : D} {v : V} (hd : k.depth ≤ 8) (hb : NkV G k (.ref b)) (hv : RpD K G d v) : ∀ {kvs : List (NK × D)} {ws : List (NK × Addr × V)}, RpKn K G kvs ws → RpKn K G (kvs ++ [(k, d)]) (ws ++ [(k, b, v)])
  | [], _, h => by rw [show _ = [] from h]; exact ⟨b, v, [], rfl, hd, hb, hv, rfl⟩
  | (j, e) :: r, _, ⟨c, w, r', h1, h5, h6, h2, h3⟩ => by subst h1; exact ⟨c, w, _, rfl, h5, h6, h2, RpKn.app hd hb hv h3⟩
theorem RpKn.put {k : NK} {b : Addr} {d : D} {v : V} (hd : k.depth ≤ 8) (hb : NkV G k (.ref b)) (hv : RpD K G d v) {kvs : List (NK × D)} {ws : List (NK × Addr × V)} (h : RpKn K G kvs ws) : RpKn K G (putDn kvs k d) (putW ws k b v) := by
  unfold putDn putW
  rw [h.any k]
  split
  · exact h.upd k hv
  · exact h.app hd hb hv
end
def dinT : T → Option (List (NK × D))
  | .p (.din kvs) => some kvs
  | .din kvs => some kvs
  | _ => none
theorem RpKn.all {K : KW} {G : Hp} {kvs : List (NK × D)} {ws : List (NK × Addr × V)} {H : Hp} (s : Same G H) (h : RpKn K G kvs ws) : NKs H ws := fun x hx => ⟨(h.keys x hx).1, NkV.mono s _ (h.keys x hx).2⟩
theorem St0.din {K : KW} {G0 H0 G H : Hp} {W : List (T × V)} {ts : List T} {vs : List V} {env : Env} {σ : St} {ot oe : List Addr} {t : T} {v : V} {ds : List (NK × D)} (s : St0 K G0 H0 W G H ts vs env σ ot oe) (hq : (t, v) ∈ W) (h : dinT t = some ds) :
    ∃ a ws, v = .ref a ∧ Rd H a (nHO K a ws) ∧ RpKn K G ds ws := by
  obtain ⟨o, r⟩ := s.vw (t, v) hq
  cases t with
  | p d =>
    cases d with
    | din kvs =>
      cases h
      obtain ⟨⟨a, ws, e1, e2, e3⟩, _⟩ := r
      exact ⟨a, ws, e1, Same.rd s.gh e2, e3⟩
    | _ => cases h
  | din kvs =>
    cases h
    obtain ⟨a, ws, e1, e2, e3, _⟩ := r
    exact ⟨a, ws, e1, .inl e2, e3⟩
  | _ => cases h
section
variable {X : Cx} {o i x : Expr} {to ti tx : TE} {fo fi fx : EF} {pos apos : Pos}
end
section
variable {X : Cx} {e o k : Expr} {te to tk : TE} {f fk : EF} {fo : PF} {i : Nat} {pos ipos : Pos}
end
section
variable {X : Cx} {k v e : Expr} {tk tv te : TE} {fk fv f : EF} {pos npos : Pos}
end
end DL
namespace DL
open PySem PySem.Spec PyProof.Rows L2
theorem RpTs.last {K : KW} {G H : Hp} {us : List T} {t : T} {xs : List V} {o : List Addr} (h : RpTs K G H (us ++ [t]) xs o) : ∃ ys y o1 o2, xs = ys ++ [y] ∧ RpTs K G H us ys o1 ∧ Rp K G H t y o2 ∧ o = o1 ++ o2 := by
  have hl := h.len
  have hx : xs = xs.take us.length ++ xs.drop us.length := (List.take_append_drop _ _).symm
  rw [hx] at h
  obtain ⟨o1, o2, h1, ⟨y, r, o3, o4, e1, e2, ⟨e3, e4⟩, e5⟩, h3⟩ := RpTs.split (by rw [List.length_take, hl, List.length_append]; simp) h
  subst e3
  rw [e1] at hx
  exact ⟨_, y, o1, o3, hx, h1, e2, by rw [h3, e5, e4, List.append_nil]⟩
section
variable {X : Cx} {o e : Expr} {to te : TE} {f : EF} {fo : PF} {i : Nat} {pos cpos apos : Pos}
end
theorem RpTs.at {K : KW} {G H : Hp} : ∀ {us : List T} {j : Nat} {t : T} {xs : List V} {o : List Addr}, RpTs K G H us xs o → us[j]? = some t → ∃ y o1 rest, xs[j]? = some y ∧ Rp K G H t y o1 ∧ o.Perm (o1 ++ rest)
  | [], _, _, _, _, _, e => by simp at e
  | u :: us, 0, t, _, _, ⟨v, r, o1, o2, h1, h2, h3, h4⟩, e => by
    simp at e; subst e; subst h1
    exact ⟨v, o1, o2, rfl, h2, by rw [h4]⟩
  | u :: us, j + 1, t, _, _, ⟨v, r, o1, o2, h1, h2, h3, h4⟩, e => by
    subst h1
    obtain ⟨y, o3, rest, k1, k2, k3⟩ := RpTs.at (j := j) h3 (by simpa using e)
    refine ⟨y, o3, o1 ++ rest, by simpa using k1, k2, ?_⟩
    rw [h4]
    exact (List.Perm.append_left o1 k3).trans (perm_mid o1 o3 rest)
theorem OkS.item {K : KW} {G0 H0 H : Hp} {W : List (T × V)} {ts us : List T} {vs : List V} {env : Env} {σ : St} {v : V} {i : Int} {t : T} (S : OkS K G0 H0 W H (.tup us :: ts) (v :: vs) env σ) (hi : atI us i = some t) :
    ∃ a xs y, v = .ref a ∧ SqT K H a xs ∧ atI xs i = some y ∧ OkS K G0 H0 W H (t :: ts) (y :: vs) env σ := by
  obtain ⟨G, ot, oe, s⟩ := S
  obtain ⟨v0, r0, o1, o2, e0, ⟨a, xs, e1, e2, e3⟩, e4, e5⟩ := s.tmp
  cases e0
  obtain ⟨j, k1, k2⟩ := atI_ix hi
  obtain ⟨y, o3, rest, k3, k4, k5⟩ := e3.at k2
  have pm : (ot ++ oe).Perm ((o3 ++ o2 ++ oe) ++ rest) := by
    rw [e5]
    have q1 : ((o1 ++ o2) ++ oe).Perm (((o3 ++ rest) ++ o2) ++ oe) := List.Perm.append_right _ (List.Perm.append_right _ k5)
    refine q1.trans ?_
    exact List.perm_iff_count.mpr fun x => by simp only [List.count_append]; omega
  have nd := pm.nodup_iff.mp s.nd
  refine ⟨a, xs, y, e1, Same.sqT s.gh (tup_sq e2), atI_of k1 e3.len k3, G, o3 ++ o2, oe, ⟨y, _, o3, o2, rfl, k4, e4, rfl⟩, s.env, (List.nodup_append.mp nd).1, fun b hb => s.fr b (pm.mem_iff.mpr (List.mem_append_left _ hb)), s.g0, s.gh, s.h0, s.nw, s.vw⟩
section
variable {X : Cx} {a b : Expr} {ta tb : TE} {fa fb : EF} {pos : Pos}
end
section
variable {X : Cx} {o i : Expr} {to ti : TE} {fo fi : EF} {pos : Pos}
end
end DL
namespace DL
open PySem PySem.Spec PyProof.Rows L2
end DL
namespace DL
open PySem PySem.Spec PyProof.Rows L2
section
variable {X : Cx}
end
end DL
namespace DL
open PySem PySem.Spec PyProof.Rows L2
def frzE (env : Env) : Env := env.map (Option.map fun t => T.p t.toD)
theorem RpE.frz {K : KW} {G H : Hp} (e : Same G H) : ∀ (es : Env) {σ : St} {o : List Addr}, RpE K G H es σ o → RpE K H H (frzE es) σ []
  | [], _, _, h => ⟨h.1, rfl⟩
  | none :: es, _, _, ⟨x, r, h1, h2⟩ => ⟨x, r, h1, RpE.frz e es h2⟩
  | some t :: es, _, _, ⟨v, r, o1, o2, h1, h2, h3, h4⟩ => ⟨v, r, [], [], h1, ⟨h2.flat e (fun _ _ => rfl) t, rfl⟩, RpE.frz e es h3, rfl⟩
def EvPr (K : KW) (s : TS) (F : SF) (sl : List Nat) : Prop := ∀ (G0 H0 : Hp) (W : List (T × V)) (H : Hp) (ts : List T) (vs : List V) (env : Env) (σ : St) (fl : Fl) (env' : Env), OkS K G0 H0 W H ts vs env σ → F env = some (fl, env') →
  ∀ D : Ends, (fl = .nx → ∀ H' σ', Same H H' → OkS K G0 H0 W H' ts vs env' σ' → Dif sl σ σ' → D.nx σ' H') → (∀ t, fl = .rt t → ∀ v H' σ', OkS K G0 H0 [] H' (t :: ts) (v :: vs) env' σ' → Dif sl σ σ' → D.rt v H') → s D σ H
def OnlyNr (F : SF) : Prop := ∀ env fl e, F env = some (fl, e) → fl = .nx ∨ ∃ t, fl = .rt t
structure DPr (X : Cx) (st : List Stmt) (s : TS) (F : SF) (sl : List Nat) : Prop where
  ps : PSs X st s
  ok : EvPr X.kw s F sl
  nr : OnlyNr F
section
variable {X : Cx} {e : Expr} {st : Stmt} {sts : List Stmt} {te : TE} {tc : TT} {f : EF} {c : CF} {t u : TS} {F1 F2 : SF} {pos : Pos} {sl sl2 : List Nat}
end
end DL
namespace DL
open PySem PySem.Spec PyProof.Rows L2
end DL
namespace DL
open PySem PySem.Spec PyProof.Rows L2
section
variable {K : KW} {G0 H0 H : Hp} {ts tt : List T} {vs : List V} {env : Env} {σ : St} {t : T} {v : V} {n : Nat}
def lostT (env : Env) (j : Nat) : T := match env[j]? with
  | some (some t) => t
  | _ => .al 0
theorem OkS.lost {j : Nat} (S : OkS K G0 H0 [] H ts vs env σ) (hv : σ[j]? = some (some v)) (hl : j < env.length) : OkS K G0 H0 [] H (lostT env j :: ts) (v :: vs) (env.set j none) σ := by
  unfold lostT
  split
  · rename_i t e
    obtain ⟨v', hv', S1⟩ := S.get e
    rw [hv] at hv'; cases hv'
    exact S1
  · rename_i hne
    have e0 : env.set j none = env := by
      refine List.ext_getElem? fun k => ?_
      by_cases c : j = k
      · subst c
        rw [List.getElem?_set_self hl]
        cases q : env[j]? with
        | none => rw [List.getElem?_eq_getElem hl] at q; cases q
        | some x =>
          cases x with
          | none => rfl
          | some t => exact absurd q (hne t)
      · rw [List.getElem?_set_ne c]
    rw [e0]
    obtain ⟨G, ot, oe, s⟩ := S
    exact ⟨G, ot, oe, ⟨v, vs, [], ot, rfl, ⟨fun h => absurd rfl h, rfl⟩, s.tmp, rfl⟩, s.env, s.nd, s.fr, s.g0, s.gh, s.h0, s.nw, s.vw⟩
end
end DL
namespace DL
open PySem PySem.Spec PyProof.Rows L2
end DL
namespace DL
open PySem PySem.Spec PyProof.Rows L2
section
variable {K : KW} {G0 H0 H : Hp} {W : List (T × V)} {ts : List T} {vs : List V} {env : Env} {σ : St} {t : T} {v : V}
end
end DL
set_option maxHeartbeats 4000000
namespace DL
open PySem PySem.Spec PyProof.Rows L2
section
variable {P : Program} {w : World} {A : Around} {E : Value → Shared → Prop} {s : Shared}
abbrev upTo (xs : List Str) (i : Nat) : Str → Bool := fun k => (xs.take i).any (· == k)
theorem upTo_next {xs : List Str} {i : Nat} {x : Str} (hN : xs.Nodup) (hx : xs[i]? = some x) : upTo xs i x = false ∧ ∀ k, (upTo xs i k || decide (k = x)) = upTo xs (i + 1) k := by
  obtain ⟨hi, hx2⟩ := List.getElem?_eq_some_iff.mp hx
  have e : xs.take (i + 1) = xs.take i ++ [x] := by rw [List.take_succ, hx]; rfl
  refine ⟨?_, fun k => ?_⟩
  · show (xs.take i).any (· == x) = false
    rw [List.any_eq_false]
    intro y hy z
    have z : y = x := by simpa using z
    subst z
    have n2 : (xs.take (i + 1)).Nodup := hN.sublist (List.take_sublist _ _)
    rw [e] at n2
    exact (List.nodup_append.mp n2).2.2 _ hy _ (by simp) rfl
  · show _ = (xs.take (i + 1)).any (· == k)
    rw [e, List.any_append]
    congr 1
    by_cases h : k = x
    · subst h; simp
    · have : (x == k) = false := by simpa using fun z : x = k => h z.symm
      simp [h, this]
theorem set_loop {R : Result → Shared → Prop} {I : Addr} {fp wr : List Addr} {G : Array GenState → Array GenState → Prop} {n : Nat} {Pv : Nat → Value → Prop} {St : Nat → Shared → Prop} (W : WalksS P w A.in1 I fp wr G n Pv St) {S : Addr} (hSf : S ∉ fp) {xs : List Str} (hl : xs.length = n) (hN : xs.Nodup) (hb : n + 1 < scanBound)
    (hv : ∀ i v, Pv i v → ∃ x t, xs[i]? = some x ∧ v = .str x t) (j : Nat) : ∀ (i : Nat) (s : Shared), i + j = n → St i s → s.heap.SetOf (strKind P w) S (upTo xs i) i →
    (∀ s', Moved (S :: wr) G s s' → s'.heap.SetOf (strKind P w) S (upTo xs n) n → R (.ok (.ret .none)) s') → codeAny (model P w) A (.builtin "set.update.loop" ⟨[.ref S, .ref I], []⟩) R s := by
  have notW : S ∉ wr := fun h => hSf (W.sub _ h)
  have more : ∀ b ∈ wr, b ∈ S :: wr := fun b => List.mem_cons_of_mem _
  have stay : ∀ {i : Nat} {s s' : Shared}, Moved wr G s s' → s.heap.SetOf (strKind P w) S (upTo xs i) i → s'.heap.SetOf (strKind P w) S (upTo xs i) i := fun hm h => by
    obtain ⟨o, es, ep, t, ho, r⟩ := h
    exact ⟨o, es, ep, t, hm.heap S _ notW ho, r⟩
  induction j with
  | zero =>
    intro i s hi hst hS hR
    obtain rfl : i = n := by omega
    refine codeAny_builtin F.entry_set_update_loop ?_
    rw [Around.under_plainId F.plain_set_update_loop _]
    exact wpAny_bind (W.done s _ _ hst fun s' hm => wpAny_pure (hR s' (hm.mono more) (stay hm hS)))
  | succ j ih =>
    intro i s hi hst hS hR
    refine codeAny_builtin F.entry_set_update_loop ?_
    rw [Around.under_plainId F.plain_set_update_loop _]
    refine wpAny_bind (W.item i s _ _ (by omega) hst fun v s' hP hst' hm => ?_)
    obtain ⟨x, t, hx, rfl⟩ := hv i v hP
    obtain ⟨f1, f2⟩ := upTo_next hN hx
    refine wpAny_bind (m := holding [Value.str x t] (setAdd S (.str x t))) (wpAny_holding ?_)
    unfold setAdd
    refine wpAny_holding (wpAny_bind ((strKind P w).pyHash (k := x) (strKind_is _ _ _ _) ?_))
    refine wpAny_setAddHashed_of (knd := strKind P w) (s := { s' with toks := s'.toks + 1 }) (strKind_is _ _ _ _) rfl (show s'.heap.SetOf (strKind P w) S (upTo xs i) i from stay hm hS) (by omega) fun h' sb hS2 => ?_
    refine wpAny_pure ⟨plainId_quiet F.plain_set_update_loop _, ih (i + 1) _ (by omega) (W.frame _ s' _ _ hst' (Nat.le_succ _) fun b hb o e => (sb.2 b fun z => hSf (z ▸ hb)).trans e) (SetOf_congr hS2 f2 (by rw [f1]; rfl)) fun s2 hm2 h2 => hR s2 ?_ h2⟩
    exact Moved.trans W.gtrans ((hm.mono more).then_heap (Nat.le_succ _) fun b o hb e => (sb.2 b fun z => hb (by rw [z]; exact List.mem_cons_self)).trans e) hm2
theorem str_at : ∀ {us : List Value} {xs : List Str}, StrsAre us xs → ∀ (i : Nat) (v : Value), us[i]? = some v → ∃ x t, xs[i]? = some x ∧ v = .str x t
  | _, _, .nil, i, v, h => by simp at h
  | _, _, .cons y t r, 0, v, h => ⟨y, t, rfl, by simpa using h.symm⟩
  | _, _, .cons y t r, i + 1, v, h => by
    obtain ⟨x, t2, h1, h2⟩ := str_at r i v (by simpa using h)
    exact ⟨x, t2, by simpa using h1, h2⟩
theorem len_of : ∀ {us : List Value} {xs : List Str}, StrsAre us xs → us.length = xs.length
  | _, _, .nil => rfl
  | _, _, .cons y t r => by rw [List.length_cons, List.length_cons, len_of r]
def MadeSet (P : Program) (w : World) (s : Shared) (xs : List Str) (h' : Heap) : Prop := h'.SetOf (strKind P w) s.heap.objs.size (upTo xs xs.length) xs.length ∧ ∀ b o, b < s.heap.objs.size → s.heap.get? b = some o → h'.get? b = some o
abbrev emptySet (led : Bool) : Obj := { cls := .type "set", dict := none, data := .set #[] 0 (.fresh 0 0 led) }
theorem init_set {l : Addr} {items : Array Value} {xs : List Str} {led : Bool} (hh : A.handled = none) (hl : s.heap.IsList l items) (hi : StrsAre items.toList xs) (hN : xs.Nodup) (hb : xs.length + 1 < scanBound) :
    codeAny (model P w) A (.call (.builtin "set.__init__") ⟨[.ref s.heap.objs.size, .ref l], []⟩) (wants (fun r s2 => r = .none ∧ ∃ h' tk, s2 = { s with heap := h', toks := tk } ∧ MadeSet P w s xs h') E) { s with heap := s.heap.push (emptySet led) } := by
  have at0 : (s.heap.push (emptySet led)).get? s.heap.objs.size = some (emptySet led) := Heap.get?_push_size _ rfl
  refine codeAny_call_builtin F.called_set.init.plain F.entry_set_init (check_set_init_1 ⟨_, at0, rfl⟩ ?_)
  have hll := hl.push (emptySet led)
  obtain ⟨⟨ocls, odict, odata, oslots⟩, ho, hc, nl, hd⟩ := id hl
  simp only at hc hd
  subst hc; subst hd
  have lS : l < s.heap.objs.size := Heap.lt_size ho
  have ho' := Heap.get?_push_of_some (emptySet led) ho
  have k1 := F.sub_list_set
  have k2 := F.sub_list_frozenset
  have k3 : (Value.type "list" == Value.type "dict") = false := by decide
  unfold Builtin.«set.__init__» noKeywords Builtin.Frozenset.updateFrom
  generalize hp : pyIter = PI
  wp_walk
  subst hp
  refine wpAny_pyIter_list hll (wpAny_bind (wpAny_runValue ?_))
  have z1 : (s.heap.push (emptySet led)).objs.size = s.heap.objs.size + 1 := Heap.size_push _ _
  refine set_loop ((Walks.list (by simp [hh]) _ l (by rw [z1]; exact Nat.ne_of_lt (Nat.lt_succ_of_lt lS)) items).toS) (S := s.heap.objs.size) (by rw [z1]; intro z; rcases List.mem_cons.mp z with z | z; exact absurd z (Nat.ne_of_lt (Nat.lt_succ_self _)); exact absurd (List.mem_singleton.mp z) (Nat.ne_of_gt lS)) (by rw [← len_of hi, Array.length_toList]) hN (by rw [← Array.length_toList, len_of hi]; exact hb)
    (fun i v hv => str_at hi i v (by rw [Array.getElem?_toList]; exact hv)) items.size 0 _ (by omega) ⟨⟨_, Heap.get?_push_size _ rfl, rfl, rfl⟩, hll.push _⟩ ?_ fun s2 hm h2 => ?_
  · exact SetOf_congr ((setObjOf_fresh (knd := strKind P w) led).setOf (Heap.get?_push_of_some _ at0) (by unfold scanBound; omega)) (fun _ => rfl) rfl
  · obtain ⟨h', g', d', tk', os'⟩ := s2
    obtain rfl : g' = s.gens := hm.gens
    obtain rfl : d' = s.drawn := hm.drawn
    obtain rfl : os' = s.os := hm.os
    have e2 : items.size = xs.length := by rw [← len_of hi, Array.length_toList]
    rw [e2] at h2
    refine wpAny_pure (wpAny_pure ⟨rfl, h', tk', rfl, h2, fun b o hb e => hm.heap b o ?_ (Heap.get?_push_of_some _ (Heap.get?_push_of_some _ e))⟩)
    rw [z1]
    intro z
    rcases List.mem_cons.mp z with z | z
    · exact absurd z (Nat.ne_of_lt hb)
    · exact absurd (List.mem_singleton.mp z) (Nat.ne_of_lt (Nat.lt_succ_of_lt hb))
theorem call_setS {l : Addr} {items : Array Value} {xs : List Str} {Q : Value → Shared → Prop} (hh : A.handled = none) (hl : s.heap.IsList l items) (hi : StrsAre items.toList xs) (hN : xs.Nodup) (hb : xs.length + 1 < scanBound)
    (h : ∀ (h' : Heap) (tk : Nat), MadeSet P w s xs h' → Q (.ref s.heap.objs.size) { s with heap := h', toks := tk }) : wpAny (model P w) A (call (.type "set") [.ref l]) Q E s := by
  obtain ⟨c, tl, m1⟩ := F.called_set.mro
  have m2 := F.called_set.made
  have m3 := F.called_set.sub
  have m4 := F.called_set.notType
  have m5 := F.called_set.canCreate
  have m6 := F.typeCall_set_1 (.ref l)
  refine wpAny_call (codeAny_of_tree ?_)
  show wpAny _ _ (callAny (.type "set") _) _ _ _
  refine wpAny_pure ⟨Code.quiet_builtin _ (by decide +kernel), codeAny_builtin F.entry_type_call ?_⟩
  rw [Around.under_plain (weight_type_call_type "set" [.ref l] []) rfl]
  repeat (any_goals (first | assumption | wp_step))
  refine codeAny_mono (code_set_new_1 (.ref l) (E := E) (Q₁ := fun u s1 => ∃ led : Bool, u = .ref s.heap.objs.size ∧ s1 = { s with heap := s.heap.push (emptySet led) }) fun led => ⟨led, rfl, rfl⟩) fun r s1 hr => ?_
  match r, hr with
  | .error e, hr => exact hr
  | .ok (.ret u), hr =>
    obtain ⟨led, rfl, rfl⟩ := hr
    have T : Shared.TypeIs { s with heap := s.heap.push (emptySet led) } (.ref s.heap.objs.size) "set" := ⟨_, Heap.get?_push_size _ rfl, rfl⟩
    have i1 := F.called_set.init.lookup
    have i2 := F.called_set.init.bind (.ref s.heap.objs.size)
    repeat (any_goals (first | assumption | wp_step))
    refine codeAny_mono (init_set (E := E) (by simp [hh]) hl hi hN hb) fun r2 s2 hr2 => ?_
    match r2, hr2 with
    | .error e, hr2 => exact hr2
    | .ok (.ret u), hr2 =>
      obtain ⟨rfl, h', tk, rfl, hm⟩ := hr2
      repeat (any_goals (first | assumption | wp_step))
      exact h _ _ hm
end
section
variable {X : Cx}
def tLenSet (K : PySem.W.Frag) (ta : TE) : TE := fun σ H Q => ta σ H fun x H1 => ∃ l, ∃ xs : List Str, x = .ref l ∧ SqL K H1 l (xs.map V.str) ∧ xs.Nodup ∧ xs.length ≤ 1000 ∧ Q (.int xs.length) H1
theorem pe_lenSet {a : Expr} {ta : TE} {p p2 q pos : Pos} (hc : X.calm = true) (hg : Gl X "len") (hm : X.mg "len" = none) (hg2 : Gl X "set") (hm2 : X.mg "set" = none) (ha : PE X a ta)
    (na : starEach [a] X.env = (false, eval a X.env) :: starEach [] X.env := by rfl) : PE X (.Call (.Name "len" p) [.Call (.Name "set" p2) [a] [] q] [] pos) (tLenSet X.K ta) := by
  refine ⟨fun pins s σ H Q I h => ?_⟩
  refine Call_ (ld_blt I hg hm boot_len (callWith_builtin1 (args_cons ?_ rfl) rfl rfl))
  refine Call_ (ld_blt I hg2 hm2 boot_set (callWith_type1 (args_cons (thn (ha.run pins s σ H _ I h) fun v s1 ⟨x, H1, I1, r1, l, xs, e1, e2, e3, e4, e5⟩ => args_nil ?_) na) na rfl))
  subst e1
  cases r1
  obtain ⟨its, r, pl, hz⟩ := I1.list e2
  refine call_setS (I1.ok.hd hc) pl.isList (by simpa using strsAre_of r) e3 (by unfold scanBound; omega) fun h' tk hM => args_nil ?_
  obtain ⟨⟨o, es, ep, t, ho, hex, hd, _, _, _, hf, hn⟩, hk⟩ := hM
  exact call_len_set ho hex hd hf (by rw [hn] <;> omega) ⟨.int xs.length, H1, (I1.kept fun b o e => hk b o (Heap.lt_size e) e).tok _, ⟨_, by rw [hn]⟩, e5⟩
end
def txtsD : List D → Option (List Str)
  | [] => some []
  | .str x :: r => (txtsD r).map (x :: ·)
  | _ :: _ => none
theorem txtsD_rp {K : KW} {G : Hp} : ∀ {ds : List D} {xs : List Str} {vs : List V}, txtsD ds = some xs → RpDs K G ds vs → vs = xs.map V.str
  | [], xs, vs, h, r => by cases h; exact r
  | d :: ds, xs, vs, h, ⟨v, r, h1, h2, h3⟩ => by
    subst h1
    unfold txtsD at h
    split at h
    · cases ‹_ = []›
    · rename_i x r' e
      obtain ⟨rfl, rfl⟩ := List.cons.inj e
      obtain ⟨ys, g1, g2⟩ := omap h
      subst g2
      rw [List.map_cons, show v = V.str x from h2, txtsD_rp g1 h3]
    · cases h
def eLenSet (f : EF) : EF := fun env => (f env).bind fun r => match r.1.toD with
  | .lst ds => (txtsD ds).bind fun xs => if xs.Nodup ∧ xs.length ≤ 1000 then some (.p (.int xs.length), r.2) else none
  | _ => none
theorem dt_lenSet {X : Cx} {a : Expr} {ta : TE} {fa : EF} {p p2 q pos : Pos} (hc : X.calm = true) (hg : Gl X "len") (hm : X.mg "len" = none) (hg2 : Gl X "set") (hm2 : X.mg "set" = none) (h : DV X a ta fa)
    (na : starEach [a] X.env = (false, eval a X.env) :: starEach [] X.env := by rfl) : DT X (.Call (.Name "len" p) [.Call (.Name "set" p2) [a] [] q] [] pos) (tLenSet X.K ta) (eLenSet fa) := by
  refine ⟨pe_lenSet hc hg hm hg2 hm2 h.pe na, ?_⟩
  intro G0 H0 W H ts vs env σ t env' S e Q q
  obtain ⟨⟨x, e1⟩, h1, h2⟩ := obind e
  dsimp only at h2
  split at h2
  · rename_i ds hd
    obtain ⟨xs, h3, h4⟩ := obind h2
    split at h4
    · rename_i hn
      cases h4
      refine h.ok _ _ _ _ _ _ _ _ _ _ S h1 _ fun v H1 s1 S1 => ?_
      have r := S1.see (q := (x, v)) (by simp)
      rw [show ((x, v) : T × V).1.toD = D.lst ds from hd] at r
      obtain ⟨l, vs2, e2, e3, e4⟩ := r
      have e5 := txtsD_rp h3 e4
      subst e5
      exact ⟨l, xs, e2, .inl e3, hn.1, hn.2, q _ H1 s1 (S1.unview.scal fun _ => rfl)⟩
    · cases h4
  · cases h2
def sFzN (i : Nat) (F : SF) : SF := fun env => match env[i]? with
  | some (some t) => F (env.set i (some (.p t.toD)))
  | _ => none
theorem dss_fzN {X : Cx} {st : List Stmt} {tb : TS} {F : SF} {sl : List Nat} (i : Nat) (h : DSs X st tb F sl) : DSs X st tb (sFzN i F) sl := by
  refine ⟨h.ps, ?_⟩
  intro G0 H0 H ts vs env σ fl env' S g D q
  unfold sFzN at g
  split at g
  · rename_i t he
    obtain ⟨v, hv, S1⟩ := S.get he
    have hl : i < env.length := (List.getElem?_eq_some_iff.mp he).1
    have S2 := S1.frz.put (i := i) (by simpa using hl)
    rw [List.set_set, set_back hv] at S2
    exact h.ok _ _ _ _ _ _ _ _ _ S2 g D q
  · cases g
end DL
namespace K57
noncomputable section
open PySem PySem.Spec PyProof.Rows L2 DL
def F_law_mixed : SF :=
  (sSeq (sSet 2 (eOp gMod (eOp gMul (eOp gMod (eV 0) (eC (.int 2147483647))) (eOp gAdd (eC (.int 69621)) (eOp gMul (eOp gMul (eC (.int 1511)) (eV 1)) (eV 1)))) (eC (.int 2147483629))))
  (sRet (eOp gMod (eOp gMul (eOp gAdd (eV 2) (eV 1)) (eOp gAdd (eOp gAdd (eV 2) (eOp gMul (eC (.int 5)) (eV 1))) (eC (.int 1)))) (eC (.int 2147483587)))))
def phi_law_mixed : List D → Option T := runF 3 2 F_law_mixed
def F_law_cell_at : SF :=
  (sSeq (sIf (cT (eCmp cLt (eB 1) (eB1 gLen (eB 0)))) (sRet (eW (eIx (eB 0) (eV 1)))) sNx)
  (sRet (eC (.int 0))))
def phi_law_cell_at : List D → Option T := runF 2 2 F_law_cell_at
def B_law_letters_1 : SF :=
  (sSeq (sSet 3 (eOp gAdd (eV 3) (eW (eIx (eB 2) (eOp gMod (eV 0) (eC (.int 26)))))))
  (sSet 0 (eOp gDiv (eV 0) (eC (.int 26)))))
def F_law_letters : SF :=
  (sSeq (sSet 2 (eC (.str (PySem.Str.ofString "abcdefghijklmnopqrstuvwxyz"))))
  (sSeq (sSet 3 (eC (.str (PySem.Str.ofString ""))))
  (sSeq (sFor (iR1 (aC (eV 1) aN)) (gNm 4) B_law_letters_1)
  (sRet (eM 3)))))
def phi_law_letters : List D → Option T := runF 5 2 F_law_letters
def F_law_spelt : SF :=
  (sSeq (sSet 1 (eC (.str (PySem.Str.ofString "abcdefghijklmnopqrstuvwxyz"))))
  (sSeq (sSet 2 (eFz (eL (aC (eC (.str (PySem.Str.ofString "pool"))) (aC (eC (.str (PySem.Str.ofString "claim"))) (aC (eC (.str (PySem.Str.ofString "pot"))) (aC (eC (.str (PySem.Str.ofString "eat"))) (aC (eC (.str (PySem.Str.ofString "order"))) (aC (eC (.str (PySem.Str.ofString "part"))) (aC (eC (.str (PySem.Str.ofString "pay"))) (aC (eC (.str (PySem.Str.ofString "share"))) (aC (eC (.str (PySem.Str.ofString "repay"))) (aC (eC (.str (PySem.Str.ofString "fill"))) (aC (eC (.str (PySem.Str.ofString "lend"))) (aC (eC (.str (PySem.Str.ofString "back"))) aN)))))))))))))))
  (sSeq (sIf (cOr (cT (eCmp inQ (eB 0) (eB 2))) (cT (eCmp inQ (eB 0) (eL (aC (eC (.str (PySem.Str.ofString "rest"))) (aC (eC (.str (PySem.Str.ofString "look"))) (aC (eC (.str (PySem.Str.ofString "guard"))) (aC (eC (.str (PySem.Str.ofString "debt"))) (aC (eC (.str (PySem.Str.ofString "on"))) (aC (eC (.str (PySem.Str.ofString "late"))) (aC (eC (.str (PySem.Str.ofString "early"))) (aC (eC (.str (PySem.Str.ofString "quit"))) aN)))))))))))) (sRet (eOp gAdd (eSl (eB 0) oN (oS (eNeg (eC (.int 1))))) (eW (eIx (eB 1) (eOp gMod (eOp gAdd (eM1 gIndex (eV 1) (eW (eIx (eB 0) (eNeg (eC (.int 1)))))) (eC (.int 13))) (eC (.int 26))))))) sNx)
  (sRet (eM 0)))))
def phi_law_spelt : List D → Option T := runF 3 1 F_law_spelt
def B_law_words_1 : SF :=
  (sSeq (sSet 10 (eW (eIx (eB 3) (eOp gMod (eOp gAdd (eOp gDiv (eV 4) (eC (.int 192))) (eV 9)) (eC (.int 26))))))
  (sSeq (sIf (cT (eCmp eqQ (eOp gMod (eV 4) (eC (.int 3))) (eC (.int 0)))) (sSet 11 (eOp gAdd (eOp gAdd (eSl (eB 5) oN (oS (eV 7))) (eV 10)) (eSl (eB 5) (oS (eOp gAdd (eV 7) (eC (.int 1)))) (oS (eV 6))))) (sIf (cT (eCmp eqQ (eOp gMod (eV 4) (eC (.int 3))) (eC (.int 1)))) (sSet 11 (eSl (eB 5) oN (oS (eOp gAdd (eC (.int 1)) (eOp gMod (eOp gAdd (eOp gDiv (eV 4) (eC (.int 24))) (eV 9)) (eV 2)))))) (sSet 11 (eSl (eOp gAdd (eV 10) (eCall phi_law_letters (aC (eCall phi_law_mixed (aC (eV 0) (aC (eOp gAdd (eV 9) (eC (.int 2))) aN))) (aC (eC (.int 7)) aN)))) oN (oS (eOp gAdd (eC (.int 1)) (eOp gMod (eCall phi_law_mixed (aC (eV 0) (aC (eOp gAdd (eV 9) (eC (.int 40))) aN))) (eV 2))))))))
  (sApp 8 (eCall phi_law_spelt (aC (eV 11) aN)))))
def F_law_words : SF :=
  (sSeq (sSet 3 (eC (.str (PySem.Str.ofString "abcdefghijklmnopqrstuvwxyz"))))
  (sSeq (sSet 4 (eFz (eCall phi_law_mixed (aC (eV 0) (aC (eC (.int 1)) aN)))))
  (sSeq (sSet 5 (eCall phi_law_letters (aC (eOp gAdd (eOp gMul (eV 4) (eV 4)) (eV 4)) (aC (eC (.int 8)) aN))))
  (sSeq (sSet 6 (eOp gAdd (eC (.int 1)) (eOp gMod (eOp gDiv (eV 4) (eC (.int 3))) (eV 2))))
  (sSeq (sSet 7 (eOp gMod (eOp gDiv (eV 4) (eC (.int 24))) (eV 6)))
  (sSeq (sSet 8 (eL aN))
  (sSeq (sFor (iR1 (aC (eV 1) aN)) (gNm 9) B_law_words_1)
  (sSeq (sIf (cT (eCmp eqQ (eOp gMod (eOp gDiv (eV 4) (eC (.int 5000))) (eC (.int 2))) (eC (.int 1)))) (sRet (eListRev (eB 8))) sNx)
  (sRet (eM 8))))))))))
def phi_law_words : List D → Option T := runF 12 3 F_law_words
def B_law_deal_1 : SF :=
  (sSeq (sSet 8 (eFz (eCall phi_law_mixed (aC (eV 7) (aC (eOp gAdd (eV 6) (eC (.int 2))) aN)))))
  (sSeq (sSet 9 (eOp gMod (eV 8) (eV 2)))
  (sSeq (sSet 10 (eOp gMod (eOp gAdd (eOp gAdd (eV 9) (eC (.int 1))) (eOp gMod (eOp gDiv (eV 8) (eC (.int 6))) (eOp gSub (eV 2) (eC (.int 1))))) (eV 2)))
  (sAlW 11 4 [12] (pIx 4 (pIx 4 (pNm 4) (eV 9)) (eOp gMod (eOp gDiv (eV 8) (eC (.int 30))) (eB1 gLen (eIx (eB 4) (eV 9)))))
  (sSeq (sSet 12 (eFz (eT (aC (eC (.str (PySem.Str.ofString "lend"))) (aC (eOp gAdd (eW (eIx (eB 3) (eV 10))) (eC (.str (PySem.Str.ofString "a")))) (aC (eOp gAdd (eC (.int 1)) (eOp gMod (eV 8) (eOp gPow (eC (.int 10)) (eC (.int 9))))) aN))))))
  (sSeq (sIf (cT (eCmp eqQ (eOp gMod (eOp gDiv (eV 8) (eC (.int 90))) (eC (.int 3))) (eC (.int 0)))) (sSet 12 (eFz (eT (aC (eC (.str (PySem.Str.ofString "back"))) (aC (eOp gAdd (eW (eIx (eB 3) (eV 10))) (eC (.str (PySem.Str.ofString "a")))) aN))))) sNx)
  (sIf (cAnd (cT (eCmp eqQ (eOp gMod (eOp gDiv (eV 8) (eC (.int 270))) (eC (.int 4))) (eC (.int 0)))) (cT (eCmp cLt (eB1 gLen (eB 11)) (eC (.int 5))))) (sInsP 11 (pNm 11) (aC (eOp gMod (eOp gDiv (eV 8) (eC (.int 1080))) (eB1 gLen (eB 11))) (aC (eV 12) aN))) sNx)))))))
def B_law_deal_2 : SF :=
  (sSeq (sSet 14 (eOp gAdd (eW (eIx (eB 3) (eV 6))) (eC (.str (PySem.Str.ofString "b")))))
  (sSeq (sSet 15 (eComp [16] (iR1 (aC (eB1 gLen (eIx (eB 4) (eV 6))) aN)) (gNm 16) cYes (eT (aC (eW (eIx (eC (.str (PySem.Str.ofString "abc"))) (eV 16))) (aC (eL aN) (aC (eW (eIx (eIx (eB 4) (eV 6)) (eV 16))) aN))))))
  (sApp 13 (eFz (eT (aC (eOp gAdd (eW (eIx (eB 3) (eV 6))) (eC (.str (PySem.Str.ofString "a")))) (aC (eL (aC (eT (aC (eV 14) (aC (eOp gAdd (eC (.int 1)) (eOp gMod (eV 1) (eC (.int 100)))) (aC (eC (.int 1)) aN)))) aN)) (aC (eL aN) (aC (eL aN) (aC (eV 15) (aC (eL aN) (aC (eL aN) aN))))))))))))
def F_law_deal : SF :=
  (sSeq (sSet 1 (eFz (eCall phi_law_mixed (aC (eCall phi_law_cell_at (aC (eV 0) (aC (eC (.int 0)) aN))) (aC (eC (.int 1)) aN)))))
  (sSeq (sSet 2 (eOp gAdd (eC (.int 2)) (eOp gMod (eV 1) (eC (.int 5)))))
  (sSeq (sSet 3 (eFz (eCall phi_law_words (aC (eCall phi_law_cell_at (aC (eV 0) (aC (eC (.int 0)) aN))) (aC (eV 2) (aC (eC (.int 7)) aN))))))
  (sSeq (sSet 4 (eComp [5] (iL (eV 3)) (gNm 5) cYes (eComp [6] (iR1 (aC (eOp gAdd (eC (.int 1)) (eOp gMod (eOp gDiv (eV 1) (eC (.int 5))) (eC (.int 3)))) aN)) (gNm 6) cYes (eL (aC (eT (aC (eC (.str (PySem.Str.ofString "rest"))) (aC (eOp gAdd (eV 5) (eC (.str (PySem.Str.ofString "b")))) aN))) aN)))))
  (sSeq (sFor (iEn (aC (eFz (eSl (eB 0) oN (oS (eC (.int 64))))) aN)) (gTp 2 (gAnd (gNm 6) (gAnd (gNm 7) gEnd))) B_law_deal_1)
  (sFzN 4 (sSeq (sSet 13 (eL aN))
  (sSeq (sFor (iR1 (aC (eV 2) aN)) (gNm 6) B_law_deal_2)
  (sRet (eM 13))))))))))
def phi_law_deal : List D → Option T := runF 17 1 F_law_deal
def B_law_lends_1 : SF :=
  (sExtP 1 (pKey 1 (pNm 1) (eW (eIx (eB 2) (eC (.int 0))))) (eComp [6] (iL (eV 5)) (gNm 6) (cT (eCmp eqQ (eIx (eB 6) (eC (.int 0))) (eC (.str (PySem.Str.ofString "lend"))))) (eW (eIx (eB 6) (eC (.int 1))))))
def B_law_lends_2 : SF :=
  (sSeq (sPutP 1 (pNm 1) (eW (eIx (eB 2) (eC (.int 0)))) (eL aN))
  (sFor (iL (eW (eIx (eB 2) (eC (.int 4))))) (gTp 3 (gAnd (gNm 3) (gAnd (gNm 4) (gAnd (gNm 5) gEnd)))) B_law_lends_1))
def F_law_lends : SF :=
  (sSeq (sSet 1 eDn)
  (sSeq (sFor (iL (eV 0)) (gNm 2) B_law_lends_2)
  (sRet (eFz (eM 1)))))
def phi_law_lends : List D → Option T := runF 7 1 F_law_lends
def B_lent_to_1 : SF :=
  (sIf (cT (eCmp eqQ (eIx (eB 3) (eC (.int 0))) (eC (.str (PySem.Str.ofString "lend"))))) (sPutD 1 (eW (eIx (eB 3) (eC (.int 1)))) (eC (.bl true))) sNx)
def B_lent_to_2 : SF :=
  (sFor (iL (eW (eIx (eB 2) (eC (.int 2))))) (gNm 3) B_lent_to_1)
def F_lent_to : SF :=
  (sSeq (sSet 1 eDn)
  (sSeq (sFor (iL (eW (eIx (eB 0) (eC (.int 4))))) (gNm 2) B_lent_to_2)
  (sRet (eKeysL (eB 1)))))
def phi_lent_to : List D → Option T := runF 4 1 F_lent_to
def B_ring_through_1 : SF :=
  (sApp 7 (eDix (eB 2) (eW (eIx (eB 7) (eNeg (eC (.int 1)))))))
def B_ring_through_2 : SF :=
  (sSeq (sIf (cT (eCmp eqQ (eB 6) (eB 1))) (sSeq (sSet 7 (eL (aC (eV 5) aN)))
  (sSeq (sWh fuelW (cT (eCmp neQ (eIx (eB 7) (eNeg (eC (.int 1)))) (eB 1))) B_ring_through_1)
  (sRet (eListRev (eB 7))))) sNx)
  (sIf (cT (eDin false (eB 6) (eB 2))) (sSeq (sPutD 2 (eV 6) (eV 5))
  (sApp 3 (eV 6))) sNx))
def B_ring_through_3 : SF :=
  (sSeq (sSet 5 (eW (eIx (eB 3) (eV 4))))
  (sSeq (sFor (iL (eDix (eB 0) (eV 5))) (gNm 6) B_ring_through_2)
  (sAug 4 gAddI (eC (.int 1)))))
def F_ring_through : SF :=
  (sSeq (sSet 2 eDn)
  (sSeq (sSet 3 (eL (aC (eV 1) aN)))
  (sSeq (sSet 4 (eC (.int 0)))
  (sSeq (sWh fuelW (cT (eCmp cLt (eB 4) (eB1 gLen (eB 3)))) B_ring_through_3)
  (sRet (eC .non))))))
def phi_ring_through : List D → Option T := runF 8 2 F_ring_through
def B_lend_ring_1 : SF :=
  (sPutD 1 (eW (eIx (eB 2) (eC (.int 0)))) (eFz (eCall phi_lent_to (aC (eV 2) aN))))
def B_lend_ring_2 : SF :=
  (sSeq (sSet 3 (eCallB phi_ring_through (aC (eB 1) (aC (eIx (eB 2) (eC (.int 0))) aN))))
  (sIf (cT (eCmp isNotN (eB 3) (eC .non))) (sRet (eM 3)) sNx))
def F_lend_ring : SF :=
  (sSeq (sSet 1 eDn)
  (sSeq (sFor (iL (eV 0)) (gNm 2) B_lend_ring_1)
  (sSeq (sFor (iL (eV 0)) (gNm 2) B_lend_ring_2)
  (sRet (eC .non)))))
def phi_lend_ring : List D → Option T := runF 4 1 F_lend_ring
def B_law_1 : SF :=
  (sSet 4 (eComp [6] (iL (eV 4)) (gNm 6) (cT (eCmp cGt (eB1 gLen (eComp [7] (iL (eDix (eB 2) (eV 6))) (gNm 7) (cT (eCmp inQ (eB 7) (eB 4))) (eV 7))) (eC (.int 0)))) (eV 6)))
def B_law_2 : SF :=
  (sSeq (sSet 10 (eW (eIx (eB 3) (eOp gMod (eOp gAdd (eV 9) (eC (.int 1))) (eB1 gLen (eB 3))))))
  (sIf (cOr (cNot (cT (eIsi "str" (eIx (eB 3) (eV 9))))) (cOr (cT (eDin false (eIx (eB 3) (eV 9)) (eB 2))) (cT (eCmp notInQ (eB 10) (eDix (eB 2) (eW (eIx (eB 3) (eV 9)))))))) (sRet (eC (.bl false))) sNx))
def F_law : SF :=
  (sSeq (sSet 1 (eFz (eCall phi_law_deal (aC (eV 0) aN))))
  (sSeq (sSet 2 (eFz (eCall phi_law_lends (aC (eV 1) aN))))
  (sSeq (sSet 3 (eCall phi_lend_ring (aC (eV 1) aN)))
  (sSeq (sIf (cT (eCmp neQ (eB 1) (eCall phi_law_deal (aC (eV 0) aN)))) (sRet (eC (.bl false))) sNx)
  (sSeq (sIf (cT (eCmp isN (eB 3) (eC .non))) (sSeq (sSet 4 (eComp [5] (iL (eV 1)) (gNm 5) cYes (eW (eIx (eB 5) (eC (.int 0))))))
  (sSeq (sFor (iL (eV 1)) (gNm 5) B_law_1)
  (sRet (eCmp eqQ (eB 4) (eL aN))))) sNx)
  (sSeq (sIf (cOr (cNot (cT (eIsi "list" (eB 3)))) (cOr (cT (eCmp cLt (eB1 gLen (eB 3)) (eC (.int 2)))) (cT (eCmp cLt (eLenSet (eB 3)) (eB1 gLen (eB 3)))))) (sRet (eC (.bl false))) sNx)
  (sSeq (sSet 8 (eFz (eList (eB 3))))
  (sSeq (sRevP 3 (pNm 3))
  (sSeq (sIf (cT (eCmp neQ (eCall phi_lend_ring (aC (eV 1) aN)) (eB 8))) (sRet (eC (.bl false))) sNx)
  (sSeq (sSet 3 (eV 8))
  (sSeq (sFor (iR1 (aC (eB1 gLen (eB 3)) aN)) (gNm 9) B_law_2)
  (sRet (eC (.bl true))))))))))))))
def phi_law : List D → Option T := runF 11 1 F_law
end
end K57
namespace K57
open PySem PySem.Spec PyProof.Rows L2 DL
def topS (i : Nat) : Stmt := PySem.Challenge.pw_tranchefall_k57_ring_of_lenders.main.body.getD i (.Pass ⟨0, 0, 0, 0⟩)
abbrev s_law_mixed : Stmt := topS 6
abbrev N_law_mixed : List Str := ["_law_cell", "_law_k", "_law_number"]
theorem sc_law_mixed : FnScope N_law_mixed ["_law_cell", "_law_k"] (defScope s_law_mixed) := ⟨rfl, rfl, rfl, by decide +kernel, rfl, by decide +kernel, by decide +kernel⟩
abbrev s_law_cell_at : Stmt := topS 5
abbrev N_law_cell_at : List Str := ["_law_script", "_law_k"]
theorem sc_law_cell_at : FnScope N_law_cell_at ["_law_script", "_law_k"] (defScope s_law_cell_at) := ⟨rfl, rfl, rfl, by decide +kernel, rfl, by decide +kernel, by decide +kernel⟩
abbrev s_law_letters : Stmt := topS 7
abbrev N_law_letters : List Str := ["_law_number", "_law_size", "_law_some", "_law_word", "_law_k"]
theorem sc_law_letters : FnScope N_law_letters ["_law_number", "_law_size"] (defScope s_law_letters) := ⟨rfl, rfl, rfl, by decide +kernel, rfl, by decide +kernel, by decide +kernel⟩
abbrev s_law_spelt : Stmt := topS 8
abbrev N_law_spelt : List Str := ["_law_word", "_law_some", "_law_kept"]
theorem sc_law_spelt : FnScope N_law_spelt ["_law_word"] (defScope s_law_spelt) := ⟨rfl, rfl, rfl, by decide +kernel, rfl, by decide +kernel, by decide +kernel⟩
abbrev s_law_words : Stmt := topS 9
abbrev N_law_words : List Str := ["_law_cell", "_law_many", "_law_longest", "_law_some", "_law_number", "_law_base", "_law_size", "_law_at", "_law_words_here", "_law_k", "_law_sign", "_law_word"]
theorem sc_law_words : FnScope N_law_words ["_law_cell", "_law_many", "_law_longest"] (defScope s_law_words) := ⟨rfl, rfl, rfl, by decide +kernel, rfl, by decide +kernel, by decide +kernel⟩
abbrev s_law_deal : Stmt := topS 10
abbrev N_law_deal : List Str := ["_law_script", "_law_first", "_law_many", "_law_words_here", "_law_rows", "_law_word", "_law_k", "_law_cell", "_law_m", "_law_one", "_law_other", "_law_rules", "_law_rule", "_law_deal_here", "_law_claim", "_law_orders", "_law_j"]
theorem sc_law_deal : FnScope N_law_deal ["_law_script"] (defScope s_law_deal) := ⟨rfl, rfl, rfl, by decide +kernel, rfl, by decide +kernel, by decide +kernel⟩
abbrev s_law_lends : Stmt := topS 11
abbrev N_law_lends : List Str := ["_law_deal_here", "_law_lends_here", "_law_pool", "_law_name", "_law_parts", "_law_rules", "_law_rule"]
theorem sc_law_lends : FnScope N_law_lends ["_law_deal_here"] (defScope s_law_lends) := ⟨rfl, rfl, rfl, by decide +kernel, rfl, by decide +kernel, by decide +kernel⟩
abbrev s_lent_to : Stmt := topS 1
abbrev N_lent_to : List Str := ["pool", "names", "order", "rule"]
theorem sc_lent_to : FnScope N_lent_to ["pool"] (defScope s_lent_to) := ⟨rfl, rfl, rfl, by decide +kernel, rfl, by decide +kernel, by decide +kernel⟩
abbrev s_ring_through : Stmt := topS 2
abbrev N_ring_through : List Str := ["lends", "name", "ways", "todo", "place", "here", "other", "ring"]
theorem sc_ring_through : FnScope N_ring_through ["lends", "name"] (defScope s_ring_through) := ⟨rfl, rfl, rfl, by decide +kernel, rfl, by decide +kernel, by decide +kernel⟩
abbrev s_lend_ring : Stmt := topS 3
abbrev N_lend_ring : List Str := ["deal", "lends", "pool", "ring"]
theorem sc_lend_ring : FnScope N_lend_ring ["deal"] (defScope s_lend_ring) := ⟨rfl, rfl, rfl, by decide +kernel, rfl, by decide +kernel, by decide +kernel⟩
abbrev s_law : Stmt := topS 12
abbrev N_law : List Str := ["_law_script", "_law_deal_here", "_law_lends_here", "_law_found", "_law_left", "_law_pool", "_law_name", "_law_other", "_law_kept", "_law_k", "_law_after"]
theorem sc_law : FnScope N_law ["_law_script"] (defScope s_law) := ⟨rfl, rfl, rfl, by decide +kernel, rfl, by decide +kernel, by decide +kernel⟩
structure Txt (K : DL.KW) (mg : Str → Option Value) (f_law_mixed f_law_cell_at f_law_letters f_law_spelt f_law_words f_law_deal f_law_lends f_lent_to f_ring_through f_lend_ring f_law : Addr) (d_law_mixed d_law_cell_at d_law_letters d_law_spelt d_law_words d_law_deal d_law_lends d_lent_to d_ring_through d_lend_ring d_law : FuncData) : Prop where
  F_law_mixed : Fun K "_law_mixed" "_law_mixed" s_law_mixed f_law_mixed d_law_mixed
  b_law_mixed : Binds K d_law_mixed ["_law_cell", "_law_k"] []
  g_law_mixed : mg "_law_mixed" = some (.ref f_law_mixed)
  F_law_cell_at : Fun K "_law_cell_at" "_law_cell_at" s_law_cell_at f_law_cell_at d_law_cell_at
  b_law_cell_at : Binds K d_law_cell_at ["_law_script", "_law_k"] []
  g_law_cell_at : mg "_law_cell_at" = some (.ref f_law_cell_at)
  F_law_letters : Fun K "_law_letters" "_law_letters" s_law_letters f_law_letters d_law_letters
  b_law_letters : Binds K d_law_letters ["_law_number", "_law_size"] []
  g_law_letters : mg "_law_letters" = some (.ref f_law_letters)
  F_law_spelt : Fun K "_law_spelt" "_law_spelt" s_law_spelt f_law_spelt d_law_spelt
  b_law_spelt : Binds K d_law_spelt ["_law_word"] []
  g_law_spelt : mg "_law_spelt" = some (.ref f_law_spelt)
  F_law_words : Fun K "_law_words" "_law_words" s_law_words f_law_words d_law_words
  b_law_words : Binds K d_law_words ["_law_cell", "_law_many", "_law_longest"] []
  g_law_words : mg "_law_words" = some (.ref f_law_words)
  F_law_deal : Fun K "_law_deal" "_law_deal" s_law_deal f_law_deal d_law_deal
  b_law_deal : Binds K d_law_deal ["_law_script"] []
  g_law_deal : mg "_law_deal" = some (.ref f_law_deal)
  F_law_lends : Fun K "_law_lends" "_law_lends" s_law_lends f_law_lends d_law_lends
  b_law_lends : Binds K d_law_lends ["_law_deal_here"] []
  g_law_lends : mg "_law_lends" = some (.ref f_law_lends)
  F_lent_to : Fun K "lent_to" "lent_to" s_lent_to f_lent_to d_lent_to
  b_lent_to : Binds K d_lent_to ["pool"] []
  g_lent_to : mg "lent_to" = some (.ref f_lent_to)
  F_ring_through : Fun K "ring_through" "ring_through" s_ring_through f_ring_through d_ring_through
  b_ring_through : Binds K d_ring_through ["lends", "name"] []
  g_ring_through : mg "ring_through" = some (.ref f_ring_through)
  F_lend_ring : Fun K "lend_ring" "lend_ring" s_lend_ring f_lend_ring d_lend_ring
  b_lend_ring : Binds K d_lend_ring ["deal"] []
  g_lend_ring : mg "lend_ring" = some (.ref f_lend_ring)
  F_law : Fun K "law" "law" s_law f_law d_law
  b_law : Binds K d_law ["_law_script"] []
  g_law : mg "law" = some (.ref f_law)
  m_list : mg "list" = none
  m_len : mg "len" = none
  m_reversed : mg "reversed" = none
  m_range : mg "range" = none
  m_enumerate : mg "enumerate" = none
  m_set : mg "set" = none
  m_isinstance : mg "isinstance" = none
  m_str : mg "str" = none
section
variable {K : DL.KW} {mg : Str → Option Value} {base : Heap} {f_law_mixed f_law_cell_at f_law_letters f_law_spelt f_law_words f_law_deal f_law_lends f_lent_to f_ring_through f_lend_ring f_law : Addr} {d_law_mixed d_law_cell_at d_law_letters d_law_spelt d_law_words d_law_deal d_law_lends d_lent_to d_ring_through d_lend_ring d_law : FuncData} (T : Txt K mg f_law_mixed f_law_cell_at f_law_letters f_law_spelt f_law_words f_law_deal f_law_lends f_lent_to f_ring_through f_lend_ring f_law d_law_mixed d_law_cell_at d_law_letters d_law_spelt d_law_words d_law_deal d_law_lends d_lent_to d_ring_through d_lend_ring d_law)
include T
theorem ok_law_mixed : FnOk K.P K.w K mg base CX0 1 f_law_mixed d_law_mixed ["_law_cell", "_law_k"] (spD 2 phi_law_mixed K) := by
  have nd : N_law_mixed.Nodup := sc_law_mixed.nd
  exact okD (Fb := F_law_mixed) T.F_law_mixed sc_law_mixed rfl rfl fun cdv A outer s H E hr => have hu := hu_of hr; ⟨_, _,
    (dss_cons (ds_set (i := 2) nd rfl (by first | exact Or.inl rfl | exact Or.inr rfl) (dt_mod (dt_mul (dt_mod (dt_v 0) dt_int) (dt_add dt_int (dt_mul (dt_mul dt_int (dt_v 1)) (dt_v 1)))) dt_int))
      (dss_one (ds_ret (dt_mod (dt_mul (dt_add (dt_v 2) (dt_v 1)) (dt_add (dt_add (dt_v 2) (dt_mul dt_int (dt_v 1))) dt_int)) dt_int))))⟩
theorem ok_law_cell_at : FnOk K.P K.w K mg base CX0 1 f_law_cell_at d_law_cell_at ["_law_script", "_law_k"] (spD 2 phi_law_cell_at K) := by
  have nd : N_law_cell_at.Nodup := sc_law_cell_at.nd
  exact okD (Fb := F_law_cell_at) T.F_law_cell_at sc_law_cell_at rfl rfl fun cdv A outer s H E hr => have hu := hu_of hr; ⟨_, _,
    (dss_cons (ds_if (dc_lt (dv_v 1) (DT.dv (dt_len (by rfl) T.m_len (dv_v 0)))) (dss_one (ds_ret (DV.dt (dv_ix (dv_v 0) (dt_v 1))))) dss_nil)
      (dss_one (ds_ret dt_int)))⟩
theorem ok_law_letters : FnOk K.P K.w K mg base CX0 1 f_law_letters d_law_letters ["_law_number", "_law_size"] (spD 2 phi_law_letters K) := by
  have nd : N_law_letters.Nodup := sc_law_letters.nd
  exact okD (Fb := F_law_letters) T.F_law_letters sc_law_letters rfl rfl fun cdv A outer s H E hr => have hu := hu_of hr; ⟨_, _,
    (dss_cons (ds_set (i := 2) nd rfl (by first | exact Or.inl rfl | exact Or.inr rfl) dt_str)
      (dss_cons (ds_set (i := 3) nd rfl (by first | exact Or.inl rfl | exact Or.inr rfl) dt_str)
      (dss_cons (ds_for PassesOwn.never rfl (di_range1 (by rfl) T.m_range (da_cons (dt_v 1) da_nil)) (dg_name (i := 4) nd rfl (by first | exact Or.inl rfl | exact Or.inr rfl)) (dss_cons (ds_set (i := 3) nd rfl (by first | exact Or.inl rfl | exact Or.inr rfl) (dt_add (dt_v 3) (DV.dt (dv_ix (dv_v 2) (dt_mod (dt_v 0) dt_int)))))
      (dss_one (ds_set (i := 0) nd rfl (by first | exact Or.inl rfl | exact Or.inr rfl) (dt_div (dt_v 0) dt_int)))))
      (dss_one (ds_ret (dt_m 3))))))⟩
theorem ok_law_spelt : FnOk K.P K.w K mg base CX0 1 f_law_spelt d_law_spelt ["_law_word"] (spD 1 phi_law_spelt K) := by
  have nd : N_law_spelt.Nodup := sc_law_spelt.nd
  exact okD (Fb := F_law_spelt) T.F_law_spelt sc_law_spelt rfl rfl fun cdv A outer s H E hr => have hu := hu_of hr; ⟨_, _,
    (dss_cons (ds_set (i := 1) nd rfl (by first | exact Or.inl rfl | exact Or.inr rfl) dt_str)
      (dss_cons (ds_set (i := 2) nd rfl (by first | exact Or.inl rfl | exact Or.inr rfl) (dt_fz (dt_lst (da_cons dt_str (da_cons dt_str (da_cons dt_str (da_cons dt_str (da_cons dt_str (da_cons dt_str (da_cons dt_str (da_cons dt_str (da_cons dt_str (da_cons dt_str (da_cons dt_str (da_cons dt_str da_nil)))))))))))))))
      (dss_cons (ds_if (DW.dc (dw_or (dc_in (dv_v 0) (dv_v 2)) (dw_or1 (dc_in (dv_v 0) (DT.dv (dt_lst (da_cons dt_str (da_cons dt_str (da_cons dt_str (da_cons dt_str (da_cons dt_str (da_cons dt_str (da_cons dt_str (da_cons dt_str da_nil)))))))))))))) (dss_one (ds_ret (dt_add (dt_sl (dv_v 0) do_none (do_some (dt_neg dt_int))) (DV.dt (dv_ix (dv_v 1) (dt_mod (dt_add (dt_index (dt_v 1) (DV.dt (dv_ix (dv_v 0) (dt_neg dt_int)))) dt_int) dt_int)))))) dss_nil)
      (dss_one (ds_ret (dt_m 0))))))⟩
theorem ok_law_words : FnOk K.P K.w K mg base CX0 2 f_law_words d_law_words ["_law_cell", "_law_many", "_law_longest"] (spD 3 phi_law_words K) := by
  have nd : N_law_words.Nodup := sc_law_words.nd
  exact okD (Fb := F_law_words) T.F_law_words sc_law_words rfl rfl fun cdv A outer s H E hr => have hu := hu_of hr; ⟨_, _,
    (dss_cons (ds_set (i := 3) nd rfl (by first | exact Or.inl rfl | exact Or.inr rfl) dt_str)
      (dss_cons (ds_set (i := 4) nd rfl (by first | exact Or.inl rfl | exact Or.inr rfl) (dt_fz (dt_call (n := 2) (φ := phi_law_mixed) (fun _ _ h => runF_len h) (ok_law_mixed T) (hr.mono (by decide)) (by rfl) T.g_law_mixed T.F_law_mixed.kp T.b_law_mixed (da_cons (dt_v 0) (da_cons dt_int da_nil)))))
      (dss_cons (ds_set (i := 5) nd rfl (by first | exact Or.inl rfl | exact Or.inr rfl) (dt_call (n := 2) (φ := phi_law_letters) (fun _ _ h => runF_len h) (ok_law_letters T) (hr.mono (by decide)) (by rfl) T.g_law_letters T.F_law_letters.kp T.b_law_letters (da_cons (dt_add (dt_mul (dt_v 4) (dt_v 4)) (dt_v 4)) (da_cons dt_int da_nil))))
      (dss_cons (ds_set (i := 6) nd rfl (by first | exact Or.inl rfl | exact Or.inr rfl) (dt_add dt_int (dt_mod (dt_div (dt_v 4) dt_int) (dt_v 2))))
      (dss_cons (ds_set (i := 7) nd rfl (by first | exact Or.inl rfl | exact Or.inr rfl) (dt_mod (dt_div (dt_v 4) dt_int) (dt_v 6)))
      (dss_cons (ds_set (i := 8) nd rfl (by first | exact Or.inl rfl | exact Or.inr rfl) (dt_lst da_nil))
      (dss_cons (ds_for PassesOwn.never rfl (di_range1 (by rfl) T.m_range (da_cons (dt_v 1) da_nil)) (dg_name (i := 9) nd rfl (by first | exact Or.inl rfl | exact Or.inr rfl)) (dss_cons (ds_set (i := 10) nd rfl (by first | exact Or.inl rfl | exact Or.inr rfl) (DV.dt (dv_ix (dv_v 3) (dt_mod (dt_add (dt_div (dt_v 4) dt_int) (dt_v 9)) dt_int))))
      (dss_cons (ds_if (dc_eq hr.units (DT.dv (dt_mod (dt_v 4) dt_int)) (DT.dv dt_int)) (dss_one (ds_set (i := 11) nd rfl (by first | exact Or.inl rfl | exact Or.inr rfl) (dt_add (dt_add (dt_sl (dv_v 5) do_none (do_some (dt_v 7))) (dt_v 10)) (dt_sl (dv_v 5) (do_some (dt_add (dt_v 7) dt_int)) (do_some (dt_v 6)))))) (dss_one (ds_if (dc_eq hr.units (DT.dv (dt_mod (dt_v 4) dt_int)) (DT.dv dt_int)) (dss_one (ds_set (i := 11) nd rfl (by first | exact Or.inl rfl | exact Or.inr rfl) (dt_sl (dv_v 5) do_none (do_some (dt_add dt_int (dt_mod (dt_add (dt_div (dt_v 4) dt_int) (dt_v 9)) (dt_v 2))))))) (dss_one (ds_set (i := 11) nd rfl (by first | exact Or.inl rfl | exact Or.inr rfl) (dt_sl (DT.dv (dt_add (dt_v 10) (dt_call (n := 2) (φ := phi_law_letters) (fun _ _ h => runF_len h) (ok_law_letters T) (hr.mono (by decide)) (by rfl) T.g_law_letters T.F_law_letters.kp T.b_law_letters (da_cons (dt_call (n := 2) (φ := phi_law_mixed) (fun _ _ h => runF_len h) (ok_law_mixed T) (hr.mono (by decide)) (by rfl) T.g_law_mixed T.F_law_mixed.kp T.b_law_mixed (da_cons (dt_v 0) (da_cons (dt_add (dt_v 9) dt_int) da_nil))) (da_cons dt_int da_nil))))) do_none (do_some (dt_add dt_int (dt_mod (dt_call (n := 2) (φ := phi_law_mixed) (fun _ _ h => runF_len h) (ok_law_mixed T) (hr.mono (by decide)) (by rfl) T.g_law_mixed T.F_law_mixed.kp T.b_law_mixed (da_cons (dt_v 0) (da_cons (dt_add (dt_v 9) dt_int) da_nil))) (dt_v 2))))))))))
      (dss_one (ds_app 8 (dt_call (n := 1) (φ := phi_law_spelt) (fun _ _ h => runF_len h) (ok_law_spelt T) (hr.mono (by decide)) (by rfl) T.g_law_spelt T.F_law_spelt.kp T.b_law_spelt (da_cons (dt_v 11) da_nil)))))))
      (dss_cons (ds_if (dc_eq hr.units (DT.dv (dt_mod (dt_div (dt_v 4) dt_int) dt_int)) (DT.dv dt_int)) (dss_one (ds_ret (dt_listRev rfl (by rfl) T.m_list (by rfl) T.m_reversed (dv_v 8)))) dss_nil)
      (dss_one (ds_ret (dt_m 8)))))))))))⟩
theorem ok_law_deal : FnOk K.P K.w K mg base CX0 3 f_law_deal d_law_deal ["_law_script"] (spD 1 phi_law_deal K) := by
  have nd : N_law_deal.Nodup := sc_law_deal.nd
  exact okD (Fb := F_law_deal) T.F_law_deal sc_law_deal rfl rfl fun cdv A outer s H E hr => have hu := hu_of hr; ⟨_, _,
    (dss_cons (ds_set (i := 1) nd rfl (by first | exact Or.inl rfl | exact Or.inr rfl) (dt_fz (dt_call (n := 2) (φ := phi_law_mixed) (fun _ _ h => runF_len h) (ok_law_mixed T) (hr.mono (by decide)) (by rfl) T.g_law_mixed T.F_law_mixed.kp T.b_law_mixed (da_cons (dt_call (n := 2) (φ := phi_law_cell_at) (fun _ _ h => runF_len h) (ok_law_cell_at T) (hr.mono (by decide)) (by rfl) T.g_law_cell_at T.F_law_cell_at.kp T.b_law_cell_at (da_cons (dt_v 0) (da_cons dt_int da_nil))) (da_cons dt_int da_nil)))))
      (dss_cons (ds_set (i := 2) nd rfl (by first | exact Or.inl rfl | exact Or.inr rfl) (dt_add dt_int (dt_mod (dt_v 1) dt_int)))
      (dss_cons (ds_set (i := 3) nd rfl (by first | exact Or.inl rfl | exact Or.inr rfl) (dt_fz (dt_call (n := 3) (φ := phi_law_words) (fun _ _ h => runF_len h) (ok_law_words T) (hr.mono (by decide)) (by rfl) T.g_law_words T.F_law_words.kp T.b_law_words (da_cons (dt_call (n := 2) (φ := phi_law_cell_at) (fun _ _ h => runF_len h) (ok_law_cell_at T) (hr.mono (by decide)) (by rfl) T.g_law_cell_at T.F_law_cell_at.kp T.b_law_cell_at (da_cons (dt_v 0) (da_cons dt_int da_nil))) (da_cons (dt_v 2) (da_cons dt_int da_nil))))))
      (dss_cons (ds_set (i := 4) nd rfl (by first | exact Or.inl rfl | exact Or.inr rfl) (dt_comp (own := [("_law_word", 5)]) rfl nd (di_list (dt_v 3)) (blkOk_by (own := [("_law_word", 5)]) (N := N_law_deal) (sc := defScope s_law_deal) (by decide +kernel)) (fun _ _ _ _ _ => (dg_name (i := 5) nd rfl (by first | exact Or.inl rfl | exact Or.inr rfl))) (fun _ _ _ _ _ => dts_nil) (fun _ _ _ _ _ => (dt_comp (own := [("_law_k", 6)]) rfl nd (di_range1 (by rfl) T.m_range (da_cons (dt_add dt_int (dt_mod (dt_div (dt_v 1) dt_int) dt_int)) da_nil)) (blkOk_by (own := [("_law_k", 6)]) (by kernel_rfl)) (fun _ _ _ _ _ => (dg_name (i := 6) nd rfl (by first | exact Or.inl rfl | exact Or.inr rfl))) (fun _ _ _ _ _ => dts_nil) (fun _ _ _ _ _ => (dt_lst (da_cons (dt_tup (da_cons dt_str (da_cons (dt_add (dt_v 5) dt_str) da_nil))) da_nil))) (by decide))) (by decide)))
      (dss_cons (ds_for PassesOwn.never rfl (di_enum (by rfl) T.m_enumerate (da_cons (dt_fz (dt_sl (dv_v 0) do_none (do_some dt_int))) da_nil)) (dg_tup rfl (dgs_cons (dg_name (i := 6) nd rfl (by first | exact Or.inl rfl | exact Or.inr rfl)) (dgs_cons (dg_name (i := 7) nd rfl (by first | exact Or.inl rfl | exact Or.inr rfl)) dgs_nil))) (dss_cons (ds_set (i := 8) nd rfl (by first | exact Or.inl rfl | exact Or.inr rfl) (dt_fz (dt_call (n := 2) (φ := phi_law_mixed) (fun _ _ h => runF_len h) (ok_law_mixed T) (hr.mono (by decide)) (by rfl) T.g_law_mixed T.F_law_mixed.kp T.b_law_mixed (da_cons (dt_v 7) (da_cons (dt_add (dt_v 6) dt_int) da_nil)))))
      (dss_cons (ds_set (i := 9) nd rfl (by first | exact Or.inl rfl | exact Or.inr rfl) (dt_mod (dt_v 8) (dt_v 2)))
      (dss_cons (ds_set (i := 10) nd rfl (by first | exact Or.inl rfl | exact Or.inr rfl) (dt_mod (dt_add (dt_add (dt_v 9) dt_int) (dt_mod (dt_div (dt_v 8) dt_int) (dt_sub (dt_v 2) dt_int))) (dt_v 2)))
      (dss_alW [12] (j := 11) nd rfl (by first | exact Or.inl rfl | exact Or.inr rfl) (dp_ix (dp_ix (dp_name 4) (dt_v 9)) (dt_mod (dt_div (dt_v 8) dt_int) (dt_len (by rfl) T.m_len (dv_ix (dv_v 4) (dt_v 9)))))
      (dss_cons (ds_set (i := 12) nd rfl (by first | exact Or.inl rfl | exact Or.inr rfl) (dt_fz (dt_tup (da_cons dt_str (da_cons (dt_add (DV.dt (dv_ix (dv_v 3) (dt_v 10))) dt_str) (da_cons (dt_add dt_int (dt_mod (dt_v 8) (dt_pow dt_int dt_int))) da_nil))))))
      (dss_cons (ds_if (dc_eq hr.units (DT.dv (dt_mod (dt_div (dt_v 8) dt_int) dt_int)) (DT.dv dt_int)) (dss_one (ds_set (i := 12) nd rfl (by first | exact Or.inl rfl | exact Or.inr rfl) (dt_fz (dt_tup (da_cons dt_str (da_cons (dt_add (DV.dt (dv_ix (dv_v 3) (dt_v 10))) dt_str) da_nil)))))) dss_nil)
      (dss_one (ds_if (DW.dc (dw_and (dc_eq hr.units (DT.dv (dt_mod (dt_div (dt_v 8) dt_int) dt_int)) (DT.dv dt_int)) (dw_and1 (dc_lt (DT.dv (dt_len (by rfl) T.m_len (dv_v 11))) (DT.dv dt_int))))) (dss_one (ds_insP (dp_name 11) (da_cons (dt_mod (dt_div (dt_v 8) dt_int) (dt_len (by rfl) T.m_len (dv_v 11))) (da_cons (dt_v 12) da_nil)))) dss_nil)))) (by decide))))))
      (dss_fzN 4 (dss_cons (ds_set (i := 13) nd rfl (by first | exact Or.inl rfl | exact Or.inr rfl) (dt_lst da_nil))
      (dss_cons (ds_for PassesOwn.never rfl (di_range1 (by rfl) T.m_range (da_cons (dt_v 2) da_nil)) (dg_name (i := 6) nd rfl (by first | exact Or.inl rfl | exact Or.inr rfl)) (dss_cons (ds_set (i := 14) nd rfl (by first | exact Or.inl rfl | exact Or.inr rfl) (dt_add (DV.dt (dv_ix (dv_v 3) (dt_v 6))) dt_str))
      (dss_cons (ds_setLc (i := 15) (own := [("_law_j", 16)]) rfl nd rfl rfl (sw_true rfl rfl rfl (by decide +kernel)) (di_range1 (by rfl) T.m_range (da_cons (dt_len (by rfl) T.m_len (dv_ix (dv_v 4) (dt_v 6))) da_nil)) (blkOk_by (own := [("_law_j", 16)]) (N := N_law_deal) (sc := defScope s_law_deal) (by decide +kernel)) (fun _ _ _ _ _ => (dg_name (i := 16) nd rfl (by first | exact Or.inl rfl | exact Or.inr rfl))) (fun _ _ _ _ _ => dts_nil) (fun _ _ _ _ _ => (dt_tup (da_cons (DV.dt (dv_ix (DT.dv dt_str) (dt_v 16))) (da_cons (dt_lst da_nil) (da_cons (DV.dt (dv_ix (dv_ix (dv_v 4) (dt_v 6)) (dt_v 16))) da_nil))))) (by decide))
      (dss_one (ds_app 13 (dt_fz (dt_tup (da_cons (dt_add (DV.dt (dv_ix (dv_v 3) (dt_v 6))) dt_str) (da_cons (dt_lst (da_cons (dt_tup (da_cons (dt_v 14) (da_cons (dt_add dt_int (dt_mod (dt_v 1) dt_int)) (da_cons dt_int da_nil)))) da_nil)) (da_cons (dt_lst da_nil) (da_cons (dt_lst da_nil) (da_cons (dt_v 15) (da_cons (dt_lst da_nil) (da_cons (dt_lst da_nil) da_nil))))))))))))))
      (dss_one (ds_ret (dt_m 13)))))))))))⟩
theorem ok_law_lends : FnOk K.P K.w K mg base CX0 1 f_law_lends d_law_lends ["_law_deal_here"] (spD 1 phi_law_lends K) := by
  have nd : N_law_lends.Nodup := sc_law_lends.nd
  exact okD (Fb := F_law_lends) T.F_law_lends sc_law_lends rfl rfl fun cdv A outer s H E hr => have hu := hu_of hr; ⟨_, _,
    (dss_cons (ds_set (i := 1) nd rfl (by first | exact Or.inl rfl | exact Or.inr rfl) dt_dn)
      (dss_cons (ds_for PassesOwn.never rfl (di_list (dt_v 0)) (dg_name (i := 2) nd rfl (by first | exact Or.inl rfl | exact Or.inr rfl)) (dss_cons (ds_putP hu (dp_name 1) (DV.dt (dv_ix (dv_v 2) dt_int)) (dt_lst da_nil))
      (dss_one (ds_for PassesOwn.never rfl (di_list (DV.dt (dv_ix (dv_v 2) dt_int))) (dg_tup rfl (dgs_cons (dg_name (i := 3) nd rfl (by first | exact Or.inl rfl | exact Or.inr rfl)) (dgs_cons (dg_name (i := 4) nd rfl (by first | exact Or.inl rfl | exact Or.inr rfl)) (dgs_cons (dg_name (i := 5) nd rfl (by first | exact Or.inl rfl | exact Or.inr rfl)) dgs_nil)))) (dss_one (ds_extP (dp_key hu (dp_name 1) (DV.dt (dv_ix (dv_v 2) dt_int))) (dt_comp (own := [("_law_rule", 6)]) rfl nd (di_list (dt_v 5)) (blkOk_by (own := [("_law_rule", 6)]) (N := N_law_lends) (sc := defScope s_law_lends) (by decide +kernel)) (fun _ _ _ _ _ => (dg_name (i := 6) nd rfl (by first | exact Or.inl rfl | exact Or.inr rfl))) (fun _ _ _ _ _ => (dts_one (dc_eq hr.units (dv_ix (dv_v 6) dt_int) (DT.dv dt_str)))) (fun _ _ _ _ _ => (DV.dt (dv_ix (dv_v 6) dt_int))) (by decide))))))))
      (dss_one (ds_ret (dt_fz (dt_m 1))))))⟩
theorem ok_lent_to : FnOk K.P K.w K mg base CX0 1 f_lent_to d_lent_to ["pool"] (spD 1 phi_lent_to K) := by
  have nd : N_lent_to.Nodup := sc_lent_to.nd
  exact okD (Fb := F_lent_to) T.F_lent_to sc_lent_to rfl rfl fun cdv A outer s H E hr => have hu := hu_of hr; ⟨_, _,
    (dss_cons (ds_set (i := 1) nd rfl (by first | exact Or.inl rfl | exact Or.inr rfl) dt_dn)
      (dss_cons (ds_for PassesOwn.never rfl (di_list (DV.dt (dv_ix (dv_v 0) dt_int))) (dg_name (i := 2) nd rfl (by first | exact Or.inl rfl | exact Or.inr rfl)) (dss_one (ds_for PassesOwn.never rfl (di_list (DV.dt (dv_ix (dv_v 2) dt_int))) (dg_name (i := 3) nd rfl (by first | exact Or.inl rfl | exact Or.inr rfl)) (dss_one (ds_if (dc_eq hr.units (dv_ix (dv_v 3) dt_int) (DT.dv dt_str)) (dss_one (ds_putD 1 hu dt_bl (DV.dt (dv_ix (dv_v 3) dt_int)))) dss_nil)))))
      (dss_one (ds_ret (dt_listD rfl (by rfl) T.m_list (dv_v 1))))))⟩
theorem ok_ring_through : FnOk K.P K.w K mg base CX0 1 f_ring_through d_ring_through ["lends", "name"] (spD 2 phi_ring_through K) := by
  have nd : N_ring_through.Nodup := sc_ring_through.nd
  exact okD (Fb := F_ring_through) T.F_ring_through sc_ring_through rfl rfl fun cdv A outer s H E hr => have hu := hu_of hr; ⟨_, _,
    (dss_cons (ds_set (i := 2) nd rfl (by first | exact Or.inl rfl | exact Or.inr rfl) dt_dn)
      (dss_cons (ds_set (i := 3) nd rfl (by first | exact Or.inl rfl | exact Or.inr rfl) (dt_lst (da_cons (dt_v 1) da_nil)))
      (dss_cons (ds_set (i := 4) nd rfl (by first | exact Or.inl rfl | exact Or.inr rfl) dt_int)
      (dss_cons (ds_while (n := fuelW) PassesOwn.never (dc_lt (dv_v 4) (DT.dv (dt_len (by rfl) T.m_len (dv_v 3)))) (dss_cons (ds_set (i := 5) nd rfl (by first | exact Or.inl rfl | exact Or.inr rfl) (DV.dt (dv_ix (dv_v 3) (dt_v 4))))
      (dss_cons (ds_for PassesOwn.never rfl (di_list (dt_dix hu (dv_v 0) (dt_v 5))) (dg_name (i := 6) nd rfl (by first | exact Or.inl rfl | exact Or.inr rfl)) (dss_cons (ds_if (dc_eq hr.units (dv_v 6) (dv_v 1)) (dss_cons (ds_set (i := 7) nd rfl (by first | exact Or.inl rfl | exact Or.inr rfl) (dt_lst (da_cons (dt_v 5) da_nil)))
      (dss_cons (ds_while (n := fuelW) PassesOwn.never (dc_ne hr.units (dv_ix (dv_v 7) (dt_neg dt_int)) (dv_v 1)) (dss_one (ds_app 7 (dt_dix hu (dv_v 2) (DV.dt (dv_ix (dv_v 7) (dt_neg dt_int)))))))
      (dss_one (ds_ret (dt_listRev rfl (by rfl) T.m_list (by rfl) T.m_reversed (dv_v 7)))))) dss_nil)
      (dss_one (ds_if (dc_dnin hu (dv_v 6) (dv_v 2)) (dss_cons (ds_putD 2 hu (dt_v 5) (dt_v 6))
      (dss_one (ds_app 3 (dt_v 6)))) dss_nil))))
      (dss_one (ds_aug (i := 4) (g := gAddI) nd rfl (by first | exact Or.inl rfl | exact Or.inr rfl) dt_int ip_add sc_ipI)))))
      (dss_one (ds_ret dt_non))))))⟩
theorem ok_lend_ring : FnOk K.P K.w K mg base CX0 2 f_lend_ring d_lend_ring ["deal"] (spD 1 phi_lend_ring K) := by
  have nd : N_lend_ring.Nodup := sc_lend_ring.nd
  exact okD (Fb := F_lend_ring) T.F_lend_ring sc_lend_ring rfl rfl fun cdv A outer s H E hr => have hu := hu_of hr; ⟨_, _,
    (dss_cons (ds_set (i := 1) nd rfl (by first | exact Or.inl rfl | exact Or.inr rfl) dt_dn)
      (dss_cons (ds_for PassesOwn.never rfl (di_list (dt_v 0)) (dg_name (i := 2) nd rfl (by first | exact Or.inl rfl | exact Or.inr rfl)) (dss_one (ds_putD 1 hu (dt_fz (dt_call (n := 1) (φ := phi_lent_to) (fun _ _ h => runF_len h) (ok_lent_to T) (hr.mono (by decide)) (by rfl) T.g_lent_to T.F_lent_to.kp T.b_lent_to (da_cons (dt_v 2) da_nil))) (DV.dt (dv_ix (dv_v 2) dt_int)))))
      (dss_cons (ds_for PassesOwn.never rfl (di_list (dt_v 0)) (dg_name (i := 2) nd rfl (by first | exact Or.inl rfl | exact Or.inr rfl)) (dss_cons (ds_set (i := 3) nd rfl (by first | exact Or.inl rfl | exact Or.inr rfl) (dt_callB (n := 2) (φ := phi_ring_through) (fun _ _ h => runF_len h) (ok_ring_through T) (hr.mono (by decide)) (by rfl) T.g_ring_through T.F_ring_through.kp T.b_ring_through (dvs_cons (dv_v 1) (dvs_cons (dv_ix (dv_v 2) dt_int) dvs_nil))))
      (dss_one (ds_if (dc_isNot (dv_v 3) (DT.dv dt_non)) (dss_one (ds_ret (dt_m 3))) dss_nil))))
      (dss_one (ds_ret dt_non)))))⟩
theorem ok_law : FnOk K.P K.w K mg base CX0 4 f_law d_law ["_law_script"] (spD 1 phi_law K) := by
  have nd : N_law.Nodup := sc_law.nd
  exact okD (Fb := F_law) T.F_law sc_law rfl rfl fun cdv A outer s H E hr => have hu := hu_of hr; ⟨_, _,
    (dss_cons (ds_set (i := 1) nd rfl (by first | exact Or.inl rfl | exact Or.inr rfl) (dt_fz (dt_call (n := 1) (φ := phi_law_deal) (fun _ _ h => runF_len h) (ok_law_deal T) (hr.mono (by decide)) (by rfl) T.g_law_deal T.F_law_deal.kp T.b_law_deal (da_cons (dt_v 0) da_nil))))
      (dss_cons (ds_set (i := 2) nd rfl (by first | exact Or.inl rfl | exact Or.inr rfl) (dt_fz (dt_call (n := 1) (φ := phi_law_lends) (fun _ _ h => runF_len h) (ok_law_lends T) (hr.mono (by decide)) (by rfl) T.g_law_lends T.F_law_lends.kp T.b_law_lends (da_cons (dt_v 1) da_nil))))
      (dss_cons (ds_set (i := 3) nd rfl (by first | exact Or.inl rfl | exact Or.inr rfl) (dt_call (n := 1) (φ := phi_lend_ring) (fun _ _ h => runF_len h) (ok_lend_ring T) (hr.mono (by decide)) (by rfl) T.g_lend_ring T.F_lend_ring.kp T.b_lend_ring (da_cons (dt_v 1) da_nil)))
      (dss_cons (ds_if (dc_ne hr.units (dv_v 1) (DT.dv (dt_call (n := 1) (φ := phi_law_deal) (fun _ _ h => runF_len h) (ok_law_deal T) (hr.mono (by decide)) (by rfl) T.g_law_deal T.F_law_deal.kp T.b_law_deal (da_cons (dt_v 0) da_nil)))) (dss_one (ds_ret dt_bl)) dss_nil)
      (dss_cons (ds_if (dc_is (dv_v 3) (DT.dv dt_non)) (dss_cons (ds_set (i := 4) nd rfl (by first | exact Or.inl rfl | exact Or.inr rfl) (dt_comp (own := [("_law_pool", 5)]) rfl nd (di_list (dt_v 1)) (blkOk_by (own := [("_law_pool", 5)]) (N := N_law) (sc := defScope s_law) (by decide +kernel)) (fun _ _ _ _ _ => (dg_name (i := 5) nd rfl (by first | exact Or.inl rfl | exact Or.inr rfl))) (fun _ _ _ _ _ => dts_nil) (fun _ _ _ _ _ => (DV.dt (dv_ix (dv_v 5) dt_int))) (by decide)))
      (dss_cons (ds_for PassesOwn.never rfl (di_list (dt_v 1)) (dg_name (i := 5) nd rfl (by first | exact Or.inl rfl | exact Or.inr rfl)) (dss_one (ds_set (i := 4) nd rfl (by first | exact Or.inl rfl | exact Or.inr rfl) (dt_comp (own := [("_law_name", 6)]) rfl nd (di_list (dt_v 4)) (blkOk_by (own := [("_law_name", 6)]) (N := N_law) (sc := defScope s_law) (by decide +kernel)) (fun _ _ _ _ _ => (dg_name (i := 6) nd rfl (by first | exact Or.inl rfl | exact Or.inr rfl))) (fun _ _ _ _ _ => (dts_one (dc_gt (DT.dv (dt_len (by rfl) T.m_len (DT.dv (dt_comp (own := [("_law_other", 7)]) rfl nd (di_list (dt_dix hu (dv_v 2) (dt_v 6))) (blkOk_by (own := [("_law_other", 7)]) (by kernel_rfl)) (fun _ _ _ _ _ => (dg_name (i := 7) nd rfl (by first | exact Or.inl rfl | exact Or.inr rfl))) (fun _ _ _ _ _ => (dts_one (dc_in (dv_v 7) (dv_v 4)))) (fun _ _ _ _ _ => (dt_v 7)) (by decide))))) (DT.dv dt_int)))) (fun _ _ _ _ _ => (dt_v 6)) (by decide)))))
      (dss_one (ds_ret (dt_eq hr.units (dv_v 4) (DT.dv (dt_lst da_nil))))))) dss_nil)
      (dss_cons (ds_if (DW.dc (dw_or (dc_not (dc_val (dt_isi (ty := "list") (by rfl) T.m_isinstance (dv_v 3) (by rfl) T.m_list (by decide +kernel)))) (dw_or (dc_lt (DT.dv (dt_len (by rfl) T.m_len (dv_v 3))) (DT.dv dt_int)) (dw_or1 (dc_lt (DT.dv (dt_lenSet rfl (by rfl) T.m_len (by rfl) T.m_set (dv_v 3))) (DT.dv (dt_len (by rfl) T.m_len (dv_v 3)))))))) (dss_one (ds_ret dt_bl)) dss_nil)
      (dss_cons (ds_set (i := 8) nd rfl (by first | exact Or.inl rfl | exact Or.inr rfl) (dt_fz (dt_list (by rfl) T.m_list (dv_v 3))))
      (dss_cons (ds_revP (dp_name 3))
      (dss_cons (ds_if (dc_ne hr.units (DT.dv (dt_call (n := 1) (φ := phi_lend_ring) (fun _ _ h => runF_len h) (ok_lend_ring T) (hr.mono (by decide)) (by rfl) T.g_lend_ring T.F_lend_ring.kp T.b_lend_ring (da_cons (dt_v 1) da_nil))) (dv_v 8)) (dss_one (ds_ret dt_bl)) dss_nil)
      (dss_cons (ds_set (i := 3) nd rfl (by first | exact Or.inl rfl | exact Or.inr rfl) (dt_v 8))
      (dss_cons (ds_for PassesOwn.never rfl (di_range1 (by rfl) T.m_range (da_cons (dt_len (by rfl) T.m_len (dv_v 3)) da_nil)) (dg_name (i := 9) nd rfl (by first | exact Or.inl rfl | exact Or.inr rfl)) (dss_cons (ds_set (i := 10) nd rfl (by first | exact Or.inl rfl | exact Or.inr rfl) (DV.dt (dv_ix (dv_v 3) (dt_mod (dt_add (dt_v 9) dt_int) (dt_len (by rfl) T.m_len (dv_v 3))))))
      (dss_one (ds_if (DW.dc (dw_or (dc_not (dc_val (dt_isi (ty := "str") (by rfl) T.m_isinstance (dv_ix (dv_v 3) (dt_v 9)) (by rfl) T.m_str (by decide +kernel)))) (dw_or (dc_dnin hu (dv_ix (dv_v 3) (dt_v 9)) (dv_v 2)) (dw_or1 (dc_notIn (dv_v 10) (DT.dv (dt_dix hu (dv_v 2) (DV.dt (dv_ix (dv_v 3) (dt_v 9)))))))))) (dss_one (ds_ret dt_bl)) dss_nil))))
      (dss_one (ds_ret dt_bl)))))))))))))⟩
end
theorem all_mk {l : PySem.W.OpenLaw} {w : World} {K : PySem.W.Frag} {h : Heap} {mg : Str → Option Value} {fa : Addr} {f_law_mixed f_law_cell_at f_law_letters f_law_spelt f_law_words f_law_deal f_law_lends f_lent_to f_ring_through f_lend_ring f_law : Addr} (X : K.In h) (G : h.Ns mainGlobals mg) (hfa : mg "law" = some (.ref fa))
    {od1 an1 od2 an2 od3 an3 od4 an4 od5 an5 od6 an6 od7 an7 od8 an8 od9 an9 od10 an10 od11 an11 : Option Addr} {sl1 sl2 sl3 sl4 sl5 sl6 sl7 sl8 sl9 sl10 sl11 : Array (Option Value)} {oc1 kV1 dc1 pm1 cd1 ct1 oc2 kV2 dc2 pm2 cd2 ct2 oc3 kV3 dc3 pm3 cd3 ct3 oc4 kV4 dc4 pm4 cd4 ct4 oc5 kV5 dc5 pm5 cd5 ct5 oc6 kV6 dc6 pm6 cd6 ct6 oc7 kV7 dc7 pm7 cd7 ct7 oc8 kV8 dc8 pm8 cd8 ct8 oc9 kV9 dc9 pm9 cd9 ct9 oc10 kV10 dc10 pm10 cd10 ct10 oc11 kV11 dc11 pm11 cd11 ct11 : Value}
    (a1 : PySem.W.nsIn K mainGlobals "_law_mixed" = some (some (.ref f_law_mixed))) (l1 : K.lookup f_law_mixed = some ⟨oc1, od1, .func (PySem.W.fnOf "_law_mixed" "_law_mixed" (defArgs s_law_mixed) (defBody s_law_mixed) (defScope s_law_mixed) .none kV1 dc1 pm1 an1 cd1 ct1), sl1⟩) (c1 : PySem.W.codeIn K cd1 "_law_mixed" = true) (k1 : PySem.W.keepIn K (.ref f_law_mixed) = true)
    (a2 : PySem.W.nsIn K mainGlobals "_law_cell_at" = some (some (.ref f_law_cell_at))) (l2 : K.lookup f_law_cell_at = some ⟨oc2, od2, .func (PySem.W.fnOf "_law_cell_at" "_law_cell_at" (defArgs s_law_cell_at) (defBody s_law_cell_at) (defScope s_law_cell_at) .none kV2 dc2 pm2 an2 cd2 ct2), sl2⟩) (c2 : PySem.W.codeIn K cd2 "_law_cell_at" = true) (k2 : PySem.W.keepIn K (.ref f_law_cell_at) = true)
    (a3 : PySem.W.nsIn K mainGlobals "_law_letters" = some (some (.ref f_law_letters))) (l3 : K.lookup f_law_letters = some ⟨oc3, od3, .func (PySem.W.fnOf "_law_letters" "_law_letters" (defArgs s_law_letters) (defBody s_law_letters) (defScope s_law_letters) .none kV3 dc3 pm3 an3 cd3 ct3), sl3⟩) (c3 : PySem.W.codeIn K cd3 "_law_letters" = true) (k3 : PySem.W.keepIn K (.ref f_law_letters) = true)
    (a4 : PySem.W.nsIn K mainGlobals "_law_spelt" = some (some (.ref f_law_spelt))) (l4 : K.lookup f_law_spelt = some ⟨oc4, od4, .func (PySem.W.fnOf "_law_spelt" "_law_spelt" (defArgs s_law_spelt) (defBody s_law_spelt) (defScope s_law_spelt) .none kV4 dc4 pm4 an4 cd4 ct4), sl4⟩) (c4 : PySem.W.codeIn K cd4 "_law_spelt" = true) (k4 : PySem.W.keepIn K (.ref f_law_spelt) = true)
    (a5 : PySem.W.nsIn K mainGlobals "_law_words" = some (some (.ref f_law_words))) (l5 : K.lookup f_law_words = some ⟨oc5, od5, .func (PySem.W.fnOf "_law_words" "_law_words" (defArgs s_law_words) (defBody s_law_words) (defScope s_law_words) .none kV5 dc5 pm5 an5 cd5 ct5), sl5⟩) (c5 : PySem.W.codeIn K cd5 "_law_words" = true) (k5 : PySem.W.keepIn K (.ref f_law_words) = true)
    (a6 : PySem.W.nsIn K mainGlobals "_law_deal" = some (some (.ref f_law_deal))) (l6 : K.lookup f_law_deal = some ⟨oc6, od6, .func (PySem.W.fnOf "_law_deal" "_law_deal" (defArgs s_law_deal) (defBody s_law_deal) (defScope s_law_deal) .none kV6 dc6 pm6 an6 cd6 ct6), sl6⟩) (c6 : PySem.W.codeIn K cd6 "_law_deal" = true) (k6 : PySem.W.keepIn K (.ref f_law_deal) = true)
    (a7 : PySem.W.nsIn K mainGlobals "_law_lends" = some (some (.ref f_law_lends))) (l7 : K.lookup f_law_lends = some ⟨oc7, od7, .func (PySem.W.fnOf "_law_lends" "_law_lends" (defArgs s_law_lends) (defBody s_law_lends) (defScope s_law_lends) .none kV7 dc7 pm7 an7 cd7 ct7), sl7⟩) (c7 : PySem.W.codeIn K cd7 "_law_lends" = true) (k7 : PySem.W.keepIn K (.ref f_law_lends) = true)
    (a8 : PySem.W.nsIn K mainGlobals "lent_to" = some (some (.ref f_lent_to))) (l8 : K.lookup f_lent_to = some ⟨oc8, od8, .func (PySem.W.fnOf "lent_to" "lent_to" (defArgs s_lent_to) (defBody s_lent_to) (defScope s_lent_to) .none kV8 dc8 pm8 an8 cd8 ct8), sl8⟩) (c8 : PySem.W.codeIn K cd8 "lent_to" = true) (k8 : PySem.W.keepIn K (.ref f_lent_to) = true)
    (a9 : PySem.W.nsIn K mainGlobals "ring_through" = some (some (.ref f_ring_through))) (l9 : K.lookup f_ring_through = some ⟨oc9, od9, .func (PySem.W.fnOf "ring_through" "ring_through" (defArgs s_ring_through) (defBody s_ring_through) (defScope s_ring_through) .none kV9 dc9 pm9 an9 cd9 ct9), sl9⟩) (c9 : PySem.W.codeIn K cd9 "ring_through" = true) (k9 : PySem.W.keepIn K (.ref f_ring_through) = true)
    (a10 : PySem.W.nsIn K mainGlobals "lend_ring" = some (some (.ref f_lend_ring))) (l10 : K.lookup f_lend_ring = some ⟨oc10, od10, .func (PySem.W.fnOf "lend_ring" "lend_ring" (defArgs s_lend_ring) (defBody s_lend_ring) (defScope s_lend_ring) .none kV10 dc10 pm10 an10 cd10 ct10), sl10⟩) (c10 : PySem.W.codeIn K cd10 "lend_ring" = true) (k10 : PySem.W.keepIn K (.ref f_lend_ring) = true)
    (a11 : PySem.W.nsIn K mainGlobals "law" = some (some (.ref f_law))) (l11 : K.lookup f_law = some ⟨oc11, od11, .func (PySem.W.fnOf "law" "law" (defArgs s_law) (defBody s_law) (defScope s_law) .none kV11 dc11 pm11 an11 cd11 ct11), sl11⟩) (c11 : PySem.W.codeIn K cd11 "law" = true) (k11 : PySem.W.keepIn K (.ref f_law) = true)
    (z1 : PySem.W.nsIn K mainGlobals "list" = some none)
    (z2 : PySem.W.nsIn K mainGlobals "len" = some none)
    (z3 : PySem.W.nsIn K mainGlobals "reversed" = some none)
    (z4 : PySem.W.nsIn K mainGlobals "range" = some none)
    (z5 : PySem.W.nsIn K mainGlobals "enumerate" = some none)
    (z6 : PySem.W.nsIn K mainGlobals "set" = some none)
    (z7 : PySem.W.nsIn K mainGlobals "isinstance" = some none)
    (z8 : PySem.W.nsIn K mainGlobals "str" = some none)
    : ∃ fd : FuncData, (∀ (s : Shared) (v : Value), BindsTo s fd ⟨[v], []⟩ [("_law_script", v)]) ∧ ∀ (K' : PySem.W.Frag) (base : Heap), Less K K' → FnOk l.prog w K' mg base CX0 4 fa fd ["_law_script"] (spD 1 phi_law ⟨K', l.prog, w⟩) := by
  have e := hfa.symm.trans (PySem.W.mg_of X G a11)
  cases e
  have E1 := fun_mk (st := s_law_mixed) l1 c1 k1
  have E2 := fun_mk (st := s_law_cell_at) l2 c2 k2
  have E3 := fun_mk (st := s_law_letters) l3 c3 k3
  have E4 := fun_mk (st := s_law_spelt) l4 c4 k4
  have E5 := fun_mk (st := s_law_words) l5 c5 k5
  have E6 := fun_mk (st := s_law_deal) l6 c6 k6
  have E7 := fun_mk (st := s_law_lends) l7 c7 k7
  have E8 := fun_mk (st := s_lent_to) l8 c8 k8
  have E9 := fun_mk (st := s_ring_through) l9 c9 k9
  have E10 := fun_mk (st := s_lend_ring) l10 c10 k10
  have E11 := fun_mk (st := s_law) l11 c11 k11
  refine ⟨PySem.W.fnOf "law" "law" (defArgs s_law) (defBody s_law) (defScope s_law) .none kV11 dc11 pm11 an11 cd11 ct11, fun s v => .of_eq rfl, fun K' base Ls => ?_⟩
  have F1 := Ls.fun E1
  have F2 := Ls.fun E2
  have F3 := Ls.fun E3
  have F4 := Ls.fun E4
  have F5 := Ls.fun E5
  have F6 := Ls.fun E6
  have F7 := Ls.fun E7
  have F8 := Ls.fun E8
  have F9 := Ls.fun E9
  have F10 := Ls.fun E10
  have F11 := Ls.fun E11
  have T : Txt ⟨K', l.prog, w⟩ mg _ _ _ _ _ _ _ _ _ _ _ _ _ _ _ _ _ _ _ _ _ _ := ⟨F1, F1.binds (ps := ["_law_cell", "_law_k"]) (fun _ _ _ _ _ _ us hl => match us, hl with | [_, _], _ => rfl), PySem.W.mg_of X G a1,
    F2, F2.binds (ps := ["_law_script", "_law_k"]) (fun _ _ _ _ _ _ us hl => match us, hl with | [_, _], _ => rfl), PySem.W.mg_of X G a2,
    F3, F3.binds (ps := ["_law_number", "_law_size"]) (fun _ _ _ _ _ _ us hl => match us, hl with | [_, _], _ => rfl), PySem.W.mg_of X G a3,
    F4, F4.binds (ps := ["_law_word"]) (fun _ _ _ _ _ _ us hl => match us, hl with | [_], _ => rfl), PySem.W.mg_of X G a4,
    F5, F5.binds (ps := ["_law_cell", "_law_many", "_law_longest"]) (fun _ _ _ _ _ _ us hl => match us, hl with | [_, _, _], _ => rfl), PySem.W.mg_of X G a5,
    F6, F6.binds (ps := ["_law_script"]) (fun _ _ _ _ _ _ us hl => match us, hl with | [_], _ => rfl), PySem.W.mg_of X G a6,
    F7, F7.binds (ps := ["_law_deal_here"]) (fun _ _ _ _ _ _ us hl => match us, hl with | [_], _ => rfl), PySem.W.mg_of X G a7,
    F8, F8.binds (ps := ["pool"]) (fun _ _ _ _ _ _ us hl => match us, hl with | [_], _ => rfl), PySem.W.mg_of X G a8,
    F9, F9.binds (ps := ["lends", "name"]) (fun _ _ _ _ _ _ us hl => match us, hl with | [_, _], _ => rfl), PySem.W.mg_of X G a9,
    F10, F10.binds (ps := ["deal"]) (fun _ _ _ _ _ _ us hl => match us, hl with | [_], _ => rfl), PySem.W.mg_of X G a10,
    F11, F11.binds (ps := ["_law_script"]) (fun _ _ _ _ _ _ us hl => match us, hl with | [_], _ => rfl), PySem.W.mg_of X G a11,
    PySem.W.mg_none_of X G z1,
    PySem.W.mg_none_of X G z2,
    PySem.W.mg_none_of X G z3,
    PySem.W.mg_none_of X G z4,
    PySem.W.mg_none_of X G z5,
    PySem.W.mg_none_of X G z6,
    PySem.W.mg_none_of X G z7,
    PySem.W.mg_none_of X G z8⟩
  exact ok_law T
end K57
namespace LW
open PySem PySem.Spec PyProof.Rows L2 DL
def F_law_mixed : SF :=
  (sSeq (sSet 2 (eOp gMod (eOp gAdd (eOp gMul (eOp gMod (eV 0) (eC (.int 2147483647))) (eC (.int 48271))) (eOp gMul (eOp gAdd (eOp gAdd (eOp gMul (eV 1) (eV 1)) (eOp gMul (eC (.int 3)) (eV 1))) (eC (.int 7))) (eC (.int 69621)))) (eC (.int 2147483647))))
  (sRet (eOp gMod (eOp gMul (eV 2) (eV 2)) (eC (.int 2147483647)))))
def phi_law_mixed : List D → Option T := runF 3 2 F_law_mixed
def F_law_coins : SF :=
  (sSeq (sIf (cT (eCmp eqQ (eOp gMod (eV 1) (eC (.int 5))) (eC (.int 0)))) (sRet (eC (.int 1))) sNx)
  (sSeq (sIf (cT (eCmp eqQ (eOp gMod (eV 1) (eC (.int 5))) (eC (.int 1)))) (sRet (eM 2)) sNx)
  (sSeq (sIf (cT (eCmp eqQ (eOp gMod (eV 1) (eC (.int 5))) (eC (.int 2)))) (sRet (eOp gAdd (eC (.int 1)) (eOp gMod (eV 0) (eC (.int 7))))) sNx)
  (sSeq (sIf (cT (eCmp eqQ (eOp gMod (eV 1) (eC (.int 5))) (eC (.int 3)))) (sRet (eOp gAdd (eC (.int 1)) (eOp gMod (eV 0) (eV 2)))) sNx)
  (sRet (eOp gAdd (eC (.int 1)) (eOp gMod (eOp gMul (eOp gMul (eOp gAdd (eOp gMod (eV 0) (eV 2)) (eC (.int 1))) (eOp gAdd (eV 1) (eC (.int 48271)))) (eC (.int 99999999999999997))) (eV 2))))))))
def phi_law_coins : List D → Option T := runF 3 3 F_law_coins
end LW
set_option maxHeartbeats 2000000
namespace LW
open PySem PySem.Spec PyProof.Rows L2 DL
def ks : List Str := Txt.split (sg (cod "pool claim pot eat order part pay share repay fill lend back rest look guard debt on late early quit")) (sg (cod " "))
def val (w : List Nat) : Nat := PySem.NumText.digitsVal w
def toks (l : List Nat) : List (List Nat) := (TL.spl [32] 0 [] l).filter fun w => !decide (w = [])
end LW
namespace LW
open PySem PySem.Spec PyProof.Rows L2 DL
mutual
def aOk : Nat → D → Bool
  | _, .non => true
  | _, .bl _ => true
  | _, .int _ => true
  | _, .str _ => true
  | 0, .lst _ => false
  | n + 1, .lst ds => decide (ds.length ≤ 1000000) && aOks n ds
  | 0, .tup _ => false
  | n + 1, .tup ds => decide (ds.length ≤ 1000000) && aOks n ds
  | _, .dic _ => false
  | _, .dit _ => false
  | _, .obj _ _ => false
  | _, .al _ => false
  | _, .tux _ => false
  | _, .din _ => false
def aOks : Nat → List D → Bool
  | _, [] => true
  | n, d :: ds => aOk n d && aOks n ds
end
def mixed (c k : Int) : Int := (c % 2147483647 * 48271 + (k * k + 3 * k + 7) * 69621) % 2147483647 * ((c % 2147483647 * 48271 + (k * k + 3 * k + 7) * 69621) % 2147483647) % 2147483647
theorem mixed_ok (c k : Int) (hk : -18446744073709551616 < k ∧ k < 18446744073709551616) : phi_law_mixed [.int c, .int k] = some (.p (.int (mixed c k))) := by
  obtain ⟨h1, h2⟩ := hk
  unfold phi_law_mixed F_law_mixed
  simp (disch := omega) only [↓reduceIte, and_self, bindS, mapS, eV_q, kV_p, kV_l, kV_t, eM_q, kM_s, eB_q, kB_s, eC_q, eW_q, kW_p, aN_q, aC_q, kAC_q, kCons_q, aMv_q, kMv_s, kMv2_q, kMv3_s, eL_q, kL_q, eT_q, kT_q, kP_q, kBl_q, kT2_q, eFz_q, kFz_q, eOp_q, kOp1_q, kOp2_q, eCmp_q, kCm1_q, kCm2_q, eNeg_q, kNeg_q, eChain_q, kCh1_q, kCh2_q, kCh3_q, cT_q, kcT_q, cNot_q, kNot_q, cAnd_q, kcAnd_t, kcAnd_f, cOr_q, kcOr_t, kcOr_f, eIf_q, keIf_t, keIf_f, eAnd_q, keAnd_t, keAnd_f, eOr_q, keOr_t, keOr_f, eNot_q, keNot_q, sIf_q, kcIf_t, kcIf_f, eB1_q, kB1_q, eI2_q, kI2_q, eIsi_q, kIsi_q, kLst_q, eList_q, kList_q, kTpl_q, eTuple_q, kTuple_q, eCall_q, kCall_q, kCall2_q, eCallB_q, kCallB_q, kCl_q, allP_n, allP_c, eIx_q, kIx1_q, kIx2_q, oN_q, oS_q, koS_q, eSl_q, kSl1_q, kSl2_q, kSl3_q, cutT_p, cutT_l, sNx_q, sBk_q, sCt_q, sRetN_q, sSeq_q, kSeq_n, kSeq_r, kSeq_b, kSeq_c, sRet_q, kRet_q, sSet_q, kSet_q, sDrop_q, kDrop_q, gNm_q, gEnd_q, gAnd_q, gTp_q, kTp_q, partsT_p, partsT_t, kNx_q, sAsg_q, kAsg_q, sFor_q, kFor_q, loop_n, loop_c, kLp1_q, kLp2_n, kLp2_c, kLp2_b, kLp2_r, iL_q, kiL_q, iTp_q, kiTp_q, iSg_q, kiSg_q, iR1_q, kR1_q, iR2_q, kR2_q, iEn_q, kEn_q, iZp_q, kZp_q, kZp_t, sForV_q, kForV_q, kForV1_q, kForV2_n, kForV2_r, atL_q, kAtL_q, sApp_q, kApp_q, kApp1_q, kApp2_q, sPut_q, kPut_q, kPut1_q, kPut2_q, kPut3_q, kPut4_q, kPutEnd_q, asI_q, sAugIx_q, kAx_q, kAx0_q, kAx1_q, kAx2_q, kAx3_q, kAx4_q, kAx5_q, kAx6_q, kAx7_q, kAx8_q, sAug_q, kAug_q, kAug2_q, kAug3_q, comp_n, comp_c, kCp1_q, kCp2_t, kCp2_f, kCp3_q, kCp4_q, eComp_q, kComp_q, kLs_q, cYes_q, wipe_n, wipe_c, eM1_q, kM11_q, kM12_q, eSplit_q, kSp1_q, kSp2_q, eJoin_q, kJn1_q, kJn2_q, kJn3_q, kJn4_q, eCat_q, kCt0_q, kCt1_q, kCt2_q, kCt3_pl, kCt3_ll, kCt3_lp, kCt3_pp, itemsT_p, itemsT_t, itemsT_ll, isLT_p, isLT_l, eDn_q, eDix_q, kDx1_q, kDx2_q, kDx3_q, kDx4_q, eDget_q, kDg1_q, kDg2_q, kDg3_q, kDg4_q, kDg5_q, eDin_q, kDi1_q, kDi2_q, kDi3_q, kDi4_t, kDi4_f, sPutD_q, kPd1_q, kPd2_q, kPd3_q, kPd4_q, kPd5_q, atD_q, kAtD_q, dicT_p, dicT_o, keyT_i, keyT_s, toD_d, kV_d, sForM_q, kForM_q, loopT_n, loopT_c, kLt1_q, kLt2_n, kLt2_r, eM0_q, kM0_q, iR3_q, runF_q, kRun_r, kRun_n, cutT_s, gStarts, gFind, startE, T.toDs, T.toD, cleanT, tyD, tyOk, List.length_cons, List.length_nil, List.length_map, List.map_cons, List.map_nil, List.replicate, List.cons_append, List.nil_append, List.getElem?_cons_zero, List.getElem?_cons_succ, List.set_cons_zero, List.set_cons_succ, Nat.reduceAdd, Nat.reduceSub, Nat.reduceLT, Nat.reduceLeDiff, Nat.zero_add, gAdd_i, gAdd_g, gSub_i, gAddI_i, gMul_l, gMul_r, gDiv_i, gMod_i, gPow_i, gMulA_g, cLt_i, cLe_i, cGt_i, cGe_i, eqQ_i, neQ_i, eqQ_g, neQ_g, eqQ_ints, neQ_ints, eqQ_b, neQ_b, inQ_g, notInQ_g, gLen_g, gStr_i, gStr_s, gSum_p, gSum_l, gLen_p, gLen_l, toD_l, toDs_p, allP_map, ixT_lst, ixT_pl, ixT_pt, ixT_sg, signsD_g, atI_0, atI_1, atI_2, atI_3, atI_4, atI_5, atI_6, ofS, sg_len, ifLe, ifLt, rng_len, decide_true, decide_false, Bool.false_eq_true, Bool.not_true, Bool.not_false, Int.reduceLT, Int.reduceLE, Int.reduceEq, kit_ii, kit_ib, kit_ll, kit_bb, kit_bi, kit_ss, kit_tt, kit_tl, kit_lt, kit_ls, kit_li, kit_lb, kit_is, kit_si, kit_sb, kit_ti, kit_tb, kit_ts]
  rfl
theorem coins_ok (c w m : Int) (hw : 0 ≤ w ∧ w < 2147483647) (hm : 7 ≤ m ∧ m ≤ 1000000000000) : ∃ x, phi_law_coins [.int c, .int w, .int m] = some (.p (.int x)) ∧ 1 ≤ x ∧ x ≤ m := by
  obtain ⟨h1, h2⟩ := hw
  obtain ⟨h3, h4⟩ := hm
  have h5 := Int.emod_nonneg c (show m ≠ 0 by omega)
  have h6 := Int.emod_lt_of_pos c (show 0 < m by omega)
  have h7 := Int.emod_nonneg ((c % m + 1) * (w + 48271) * 99999999999999997) (show m ≠ 0 by omega)
  have h8 := Int.emod_lt_of_pos ((c % m + 1) * (w + 48271) * 99999999999999997) (show 0 < m by omega)
  unfold phi_law_coins F_law_coins
  have hc : w % 5 = 0 ∨ w % 5 = 1 ∨ w % 5 = 2 ∨ w % 5 = 3 ∨ w % 5 = 4 := by omega
  rcases hc with h | h | h | h | h
  · simp (disch := omega) only [h, ↓reduceIte, and_self, bindS, mapS, eV_q, kV_p, kV_l, kV_t, eM_q, kM_s, eB_q, kB_s, eC_q, eW_q, kW_p, aN_q, aC_q, kAC_q, kCons_q, aMv_q, kMv_s, kMv2_q, kMv3_s, eL_q, kL_q, eT_q, kT_q, kP_q, kBl_q, kT2_q, eFz_q, kFz_q, eOp_q, kOp1_q, kOp2_q, eCmp_q, kCm1_q, kCm2_q, eNeg_q, kNeg_q, eChain_q, kCh1_q, kCh2_q, kCh3_q, cT_q, kcT_q, cNot_q, kNot_q, cAnd_q, kcAnd_t, kcAnd_f, cOr_q, kcOr_t, kcOr_f, eIf_q, keIf_t, keIf_f, eAnd_q, keAnd_t, keAnd_f, eOr_q, keOr_t, keOr_f, eNot_q, keNot_q, sIf_q, kcIf_t, kcIf_f, eB1_q, kB1_q, eI2_q, kI2_q, eIsi_q, kIsi_q, kLst_q, eList_q, kList_q, kTpl_q, eTuple_q, kTuple_q, eCall_q, kCall_q, kCall2_q, eCallB_q, kCallB_q, kCl_q, allP_n, allP_c, eIx_q, kIx1_q, kIx2_q, oN_q, oS_q, koS_q, eSl_q, kSl1_q, kSl2_q, kSl3_q, cutT_p, cutT_l, sNx_q, sBk_q, sCt_q, sRetN_q, sSeq_q, kSeq_n, kSeq_r, kSeq_b, kSeq_c, sRet_q, kRet_q, sSet_q, kSet_q, sDrop_q, kDrop_q, gNm_q, gEnd_q, gAnd_q, gTp_q, kTp_q, partsT_p, partsT_t, kNx_q, sAsg_q, kAsg_q, sFor_q, kFor_q, loop_n, loop_c, kLp1_q, kLp2_n, kLp2_c, kLp2_b, kLp2_r, iL_q, kiL_q, iTp_q, kiTp_q, iSg_q, kiSg_q, iR1_q, kR1_q, iR2_q, kR2_q, iEn_q, kEn_q, iZp_q, kZp_q, kZp_t, sForV_q, kForV_q, kForV1_q, kForV2_n, kForV2_r, atL_q, kAtL_q, sApp_q, kApp_q, kApp1_q, kApp2_q, sPut_q, kPut_q, kPut1_q, kPut2_q, kPut3_q, kPut4_q, kPutEnd_q, asI_q, sAugIx_q, kAx_q, kAx0_q, kAx1_q, kAx2_q, kAx3_q, kAx4_q, kAx5_q, kAx6_q, kAx7_q, kAx8_q, sAug_q, kAug_q, kAug2_q, kAug3_q, comp_n, comp_c, kCp1_q, kCp2_t, kCp2_f, kCp3_q, kCp4_q, eComp_q, kComp_q, kLs_q, cYes_q, wipe_n, wipe_c, eM1_q, kM11_q, kM12_q, eSplit_q, kSp1_q, kSp2_q, eJoin_q, kJn1_q, kJn2_q, kJn3_q, kJn4_q, eCat_q, kCt0_q, kCt1_q, kCt2_q, kCt3_pl, kCt3_ll, kCt3_lp, kCt3_pp, itemsT_p, itemsT_t, itemsT_ll, isLT_p, isLT_l, eDn_q, eDix_q, kDx1_q, kDx2_q, kDx3_q, kDx4_q, eDget_q, kDg1_q, kDg2_q, kDg3_q, kDg4_q, kDg5_q, eDin_q, kDi1_q, kDi2_q, kDi3_q, kDi4_t, kDi4_f, sPutD_q, kPd1_q, kPd2_q, kPd3_q, kPd4_q, kPd5_q, atD_q, kAtD_q, dicT_p, dicT_o, keyT_i, keyT_s, toD_d, kV_d, sForM_q, kForM_q, loopT_n, loopT_c, kLt1_q, kLt2_n, kLt2_r, eM0_q, kM0_q, iR3_q, runF_q, kRun_r, kRun_n, cutT_s, gStarts, gFind, startE, T.toDs, T.toD, cleanT, tyD, tyOk, List.length_cons, List.length_nil, List.length_map, List.map_cons, List.map_nil, List.replicate, List.cons_append, List.nil_append, List.getElem?_cons_zero, List.getElem?_cons_succ, List.set_cons_zero, List.set_cons_succ, Nat.reduceAdd, Nat.reduceSub, Nat.reduceLT, Nat.reduceLeDiff, Nat.zero_add, gAdd_i, gAdd_g, gSub_i, gAddI_i, gMul_l, gMul_r, gDiv_i, gMod_i, gPow_i, gMulA_g, cLt_i, cLe_i, cGt_i, cGe_i, eqQ_i, neQ_i, eqQ_g, neQ_g, eqQ_ints, neQ_ints, eqQ_b, neQ_b, inQ_g, notInQ_g, gLen_g, gStr_i, gStr_s, gSum_p, gSum_l, gLen_p, gLen_l, toD_l, toDs_p, allP_map, ixT_lst, ixT_pl, ixT_pt, ixT_sg, signsD_g, atI_0, atI_1, atI_2, atI_3, atI_4, atI_5, atI_6, ofS, sg_len, ifLe, ifLt, rng_len, decide_true, decide_false, Bool.false_eq_true, Bool.not_true, Bool.not_false, Int.reduceLT, Int.reduceLE, Int.reduceEq, kit_ii, kit_ib, kit_ll, kit_bb, kit_bi, kit_ss, kit_tt, kit_tl, kit_lt, kit_ls, kit_li, kit_lb, kit_is, kit_si, kit_sb, kit_ti, kit_tb, kit_ts]; exact ⟨_, rfl, by omega, by omega⟩
  · simp (disch := omega) only [h, ↓reduceIte, and_self, bindS, mapS, eV_q, kV_p, kV_l, kV_t, eM_q, kM_s, eB_q, kB_s, eC_q, eW_q, kW_p, aN_q, aC_q, kAC_q, kCons_q, aMv_q, kMv_s, kMv2_q, kMv3_s, eL_q, kL_q, eT_q, kT_q, kP_q, kBl_q, kT2_q, eFz_q, kFz_q, eOp_q, kOp1_q, kOp2_q, eCmp_q, kCm1_q, kCm2_q, eNeg_q, kNeg_q, eChain_q, kCh1_q, kCh2_q, kCh3_q, cT_q, kcT_q, cNot_q, kNot_q, cAnd_q, kcAnd_t, kcAnd_f, cOr_q, kcOr_t, kcOr_f, eIf_q, keIf_t, keIf_f, eAnd_q, keAnd_t, keAnd_f, eOr_q, keOr_t, keOr_f, eNot_q, keNot_q, sIf_q, kcIf_t, kcIf_f, eB1_q, kB1_q, eI2_q, kI2_q, eIsi_q, kIsi_q, kLst_q, eList_q, kList_q, kTpl_q, eTuple_q, kTuple_q, eCall_q, kCall_q, kCall2_q, eCallB_q, kCallB_q, kCl_q, allP_n, allP_c, eIx_q, kIx1_q, kIx2_q, oN_q, oS_q, koS_q, eSl_q, kSl1_q, kSl2_q, kSl3_q, cutT_p, cutT_l, sNx_q, sBk_q, sCt_q, sRetN_q, sSeq_q, kSeq_n, kSeq_r, kSeq_b, kSeq_c, sRet_q, kRet_q, sSet_q, kSet_q, sDrop_q, kDrop_q, gNm_q, gEnd_q, gAnd_q, gTp_q, kTp_q, partsT_p, partsT_t, kNx_q, sAsg_q, kAsg_q, sFor_q, kFor_q, loop_n, loop_c, kLp1_q, kLp2_n, kLp2_c, kLp2_b, kLp2_r, iL_q, kiL_q, iTp_q, kiTp_q, iSg_q, kiSg_q, iR1_q, kR1_q, iR2_q, kR2_q, iEn_q, kEn_q, iZp_q, kZp_q, kZp_t, sForV_q, kForV_q, kForV1_q, kForV2_n, kForV2_r, atL_q, kAtL_q, sApp_q, kApp_q, kApp1_q, kApp2_q, sPut_q, kPut_q, kPut1_q, kPut2_q, kPut3_q, kPut4_q, kPutEnd_q, asI_q, sAugIx_q, kAx_q, kAx0_q, kAx1_q, kAx2_q, kAx3_q, kAx4_q, kAx5_q, kAx6_q, kAx7_q, kAx8_q, sAug_q, kAug_q, kAug2_q, kAug3_q, comp_n, comp_c, kCp1_q, kCp2_t, kCp2_f, kCp3_q, kCp4_q, eComp_q, kComp_q, kLs_q, cYes_q, wipe_n, wipe_c, eM1_q, kM11_q, kM12_q, eSplit_q, kSp1_q, kSp2_q, eJoin_q, kJn1_q, kJn2_q, kJn3_q, kJn4_q, eCat_q, kCt0_q, kCt1_q, kCt2_q, kCt3_pl, kCt3_ll, kCt3_lp, kCt3_pp, itemsT_p, itemsT_t, itemsT_ll, isLT_p, isLT_l, eDn_q, eDix_q, kDx1_q, kDx2_q, kDx3_q, kDx4_q, eDget_q, kDg1_q, kDg2_q, kDg3_q, kDg4_q, kDg5_q, eDin_q, kDi1_q, kDi2_q, kDi3_q, kDi4_t, kDi4_f, sPutD_q, kPd1_q, kPd2_q, kPd3_q, kPd4_q, kPd5_q, atD_q, kAtD_q, dicT_p, dicT_o, keyT_i, keyT_s, toD_d, kV_d, sForM_q, kForM_q, loopT_n, loopT_c, kLt1_q, kLt2_n, kLt2_r, eM0_q, kM0_q, iR3_q, runF_q, kRun_r, kRun_n, cutT_s, gStarts, gFind, startE, T.toDs, T.toD, cleanT, tyD, tyOk, List.length_cons, List.length_nil, List.length_map, List.map_cons, List.map_nil, List.replicate, List.cons_append, List.nil_append, List.getElem?_cons_zero, List.getElem?_cons_succ, List.set_cons_zero, List.set_cons_succ, Nat.reduceAdd, Nat.reduceSub, Nat.reduceLT, Nat.reduceLeDiff, Nat.zero_add, gAdd_i, gAdd_g, gSub_i, gAddI_i, gMul_l, gMul_r, gDiv_i, gMod_i, gPow_i, gMulA_g, cLt_i, cLe_i, cGt_i, cGe_i, eqQ_i, neQ_i, eqQ_g, neQ_g, eqQ_ints, neQ_ints, eqQ_b, neQ_b, inQ_g, notInQ_g, gLen_g, gStr_i, gStr_s, gSum_p, gSum_l, gLen_p, gLen_l, toD_l, toDs_p, allP_map, ixT_lst, ixT_pl, ixT_pt, ixT_sg, signsD_g, atI_0, atI_1, atI_2, atI_3, atI_4, atI_5, atI_6, ofS, sg_len, ifLe, ifLt, rng_len, decide_true, decide_false, Bool.false_eq_true, Bool.not_true, Bool.not_false, Int.reduceLT, Int.reduceLE, Int.reduceEq, kit_ii, kit_ib, kit_ll, kit_bb, kit_bi, kit_ss, kit_tt, kit_tl, kit_lt, kit_ls, kit_li, kit_lb, kit_is, kit_si, kit_sb, kit_ti, kit_tb, kit_ts]; exact ⟨_, rfl, by omega, by omega⟩
  · simp (disch := omega) only [h, ↓reduceIte, and_self, bindS, mapS, eV_q, kV_p, kV_l, kV_t, eM_q, kM_s, eB_q, kB_s, eC_q, eW_q, kW_p, aN_q, aC_q, kAC_q, kCons_q, aMv_q, kMv_s, kMv2_q, kMv3_s, eL_q, kL_q, eT_q, kT_q, kP_q, kBl_q, kT2_q, eFz_q, kFz_q, eOp_q, kOp1_q, kOp2_q, eCmp_q, kCm1_q, kCm2_q, eNeg_q, kNeg_q, eChain_q, kCh1_q, kCh2_q, kCh3_q, cT_q, kcT_q, cNot_q, kNot_q, cAnd_q, kcAnd_t, kcAnd_f, cOr_q, kcOr_t, kcOr_f, eIf_q, keIf_t, keIf_f, eAnd_q, keAnd_t, keAnd_f, eOr_q, keOr_t, keOr_f, eNot_q, keNot_q, sIf_q, kcIf_t, kcIf_f, eB1_q, kB1_q, eI2_q, kI2_q, eIsi_q, kIsi_q, kLst_q, eList_q, kList_q, kTpl_q, eTuple_q, kTuple_q, eCall_q, kCall_q, kCall2_q, eCallB_q, kCallB_q, kCl_q, allP_n, allP_c, eIx_q, kIx1_q, kIx2_q, oN_q, oS_q, koS_q, eSl_q, kSl1_q, kSl2_q, kSl3_q, cutT_p, cutT_l, sNx_q, sBk_q, sCt_q, sRetN_q, sSeq_q, kSeq_n, kSeq_r, kSeq_b, kSeq_c, sRet_q, kRet_q, sSet_q, kSet_q, sDrop_q, kDrop_q, gNm_q, gEnd_q, gAnd_q, gTp_q, kTp_q, partsT_p, partsT_t, kNx_q, sAsg_q, kAsg_q, sFor_q, kFor_q, loop_n, loop_c, kLp1_q, kLp2_n, kLp2_c, kLp2_b, kLp2_r, iL_q, kiL_q, iTp_q, kiTp_q, iSg_q, kiSg_q, iR1_q, kR1_q, iR2_q, kR2_q, iEn_q, kEn_q, iZp_q, kZp_q, kZp_t, sForV_q, kForV_q, kForV1_q, kForV2_n, kForV2_r, atL_q, kAtL_q, sApp_q, kApp_q, kApp1_q, kApp2_q, sPut_q, kPut_q, kPut1_q, kPut2_q, kPut3_q, kPut4_q, kPutEnd_q, asI_q, sAugIx_q, kAx_q, kAx0_q, kAx1_q, kAx2_q, kAx3_q, kAx4_q, kAx5_q, kAx6_q, kAx7_q, kAx8_q, sAug_q, kAug_q, kAug2_q, kAug3_q, comp_n, comp_c, kCp1_q, kCp2_t, kCp2_f, kCp3_q, kCp4_q, eComp_q, kComp_q, kLs_q, cYes_q, wipe_n, wipe_c, eM1_q, kM11_q, kM12_q, eSplit_q, kSp1_q, kSp2_q, eJoin_q, kJn1_q, kJn2_q, kJn3_q, kJn4_q, eCat_q, kCt0_q, kCt1_q, kCt2_q, kCt3_pl, kCt3_ll, kCt3_lp, kCt3_pp, itemsT_p, itemsT_t, itemsT_ll, isLT_p, isLT_l, eDn_q, eDix_q, kDx1_q, kDx2_q, kDx3_q, kDx4_q, eDget_q, kDg1_q, kDg2_q, kDg3_q, kDg4_q, kDg5_q, eDin_q, kDi1_q, kDi2_q, kDi3_q, kDi4_t, kDi4_f, sPutD_q, kPd1_q, kPd2_q, kPd3_q, kPd4_q, kPd5_q, atD_q, kAtD_q, dicT_p, dicT_o, keyT_i, keyT_s, toD_d, kV_d, sForM_q, kForM_q, loopT_n, loopT_c, kLt1_q, kLt2_n, kLt2_r, eM0_q, kM0_q, iR3_q, runF_q, kRun_r, kRun_n, cutT_s, gStarts, gFind, startE, T.toDs, T.toD, cleanT, tyD, tyOk, List.length_cons, List.length_nil, List.length_map, List.map_cons, List.map_nil, List.replicate, List.cons_append, List.nil_append, List.getElem?_cons_zero, List.getElem?_cons_succ, List.set_cons_zero, List.set_cons_succ, Nat.reduceAdd, Nat.reduceSub, Nat.reduceLT, Nat.reduceLeDiff, Nat.zero_add, gAdd_i, gAdd_g, gSub_i, gAddI_i, gMul_l, gMul_r, gDiv_i, gMod_i, gPow_i, gMulA_g, cLt_i, cLe_i, cGt_i, cGe_i, eqQ_i, neQ_i, eqQ_g, neQ_g, eqQ_ints, neQ_ints, eqQ_b, neQ_b, inQ_g, notInQ_g, gLen_g, gStr_i, gStr_s, gSum_p, gSum_l, gLen_p, gLen_l, toD_l, toDs_p, allP_map, ixT_lst, ixT_pl, ixT_pt, ixT_sg, signsD_g, atI_0, atI_1, atI_2, atI_3, atI_4, atI_5, atI_6, ofS, sg_len, ifLe, ifLt, rng_len, decide_true, decide_false, Bool.false_eq_true, Bool.not_true, Bool.not_false, Int.reduceLT, Int.reduceLE, Int.reduceEq, kit_ii, kit_ib, kit_ll, kit_bb, kit_bi, kit_ss, kit_tt, kit_tl, kit_lt, kit_ls, kit_li, kit_lb, kit_is, kit_si, kit_sb, kit_ti, kit_tb, kit_ts]; exact ⟨_, rfl, by omega, by omega⟩
  · simp (disch := omega) only [h, ↓reduceIte, and_self, bindS, mapS, eV_q, kV_p, kV_l, kV_t, eM_q, kM_s, eB_q, kB_s, eC_q, eW_q, kW_p, aN_q, aC_q, kAC_q, kCons_q, aMv_q, kMv_s, kMv2_q, kMv3_s, eL_q, kL_q, eT_q, kT_q, kP_q, kBl_q, kT2_q, eFz_q, kFz_q, eOp_q, kOp1_q, kOp2_q, eCmp_q, kCm1_q, kCm2_q, eNeg_q, kNeg_q, eChain_q, kCh1_q, kCh2_q, kCh3_q, cT_q, kcT_q, cNot_q, kNot_q, cAnd_q, kcAnd_t, kcAnd_f, cOr_q, kcOr_t, kcOr_f, eIf_q, keIf_t, keIf_f, eAnd_q, keAnd_t, keAnd_f, eOr_q, keOr_t, keOr_f, eNot_q, keNot_q, sIf_q, kcIf_t, kcIf_f, eB1_q, kB1_q, eI2_q, kI2_q, eIsi_q, kIsi_q, kLst_q, eList_q, kList_q, kTpl_q, eTuple_q, kTuple_q, eCall_q, kCall_q, kCall2_q, eCallB_q, kCallB_q, kCl_q, allP_n, allP_c, eIx_q, kIx1_q, kIx2_q, oN_q, oS_q, koS_q, eSl_q, kSl1_q, kSl2_q, kSl3_q, cutT_p, cutT_l, sNx_q, sBk_q, sCt_q, sRetN_q, sSeq_q, kSeq_n, kSeq_r, kSeq_b, kSeq_c, sRet_q, kRet_q, sSet_q, kSet_q, sDrop_q, kDrop_q, gNm_q, gEnd_q, gAnd_q, gTp_q, kTp_q, partsT_p, partsT_t, kNx_q, sAsg_q, kAsg_q, sFor_q, kFor_q, loop_n, loop_c, kLp1_q, kLp2_n, kLp2_c, kLp2_b, kLp2_r, iL_q, kiL_q, iTp_q, kiTp_q, iSg_q, kiSg_q, iR1_q, kR1_q, iR2_q, kR2_q, iEn_q, kEn_q, iZp_q, kZp_q, kZp_t, sForV_q, kForV_q, kForV1_q, kForV2_n, kForV2_r, atL_q, kAtL_q, sApp_q, kApp_q, kApp1_q, kApp2_q, sPut_q, kPut_q, kPut1_q, kPut2_q, kPut3_q, kPut4_q, kPutEnd_q, asI_q, sAugIx_q, kAx_q, kAx0_q, kAx1_q, kAx2_q, kAx3_q, kAx4_q, kAx5_q, kAx6_q, kAx7_q, kAx8_q, sAug_q, kAug_q, kAug2_q, kAug3_q, comp_n, comp_c, kCp1_q, kCp2_t, kCp2_f, kCp3_q, kCp4_q, eComp_q, kComp_q, kLs_q, cYes_q, wipe_n, wipe_c, eM1_q, kM11_q, kM12_q, eSplit_q, kSp1_q, kSp2_q, eJoin_q, kJn1_q, kJn2_q, kJn3_q, kJn4_q, eCat_q, kCt0_q, kCt1_q, kCt2_q, kCt3_pl, kCt3_ll, kCt3_lp, kCt3_pp, itemsT_p, itemsT_t, itemsT_ll, isLT_p, isLT_l, eDn_q, eDix_q, kDx1_q, kDx2_q, kDx3_q, kDx4_q, eDget_q, kDg1_q, kDg2_q, kDg3_q, kDg4_q, kDg5_q, eDin_q, kDi1_q, kDi2_q, kDi3_q, kDi4_t, kDi4_f, sPutD_q, kPd1_q, kPd2_q, kPd3_q, kPd4_q, kPd5_q, atD_q, kAtD_q, dicT_p, dicT_o, keyT_i, keyT_s, toD_d, kV_d, sForM_q, kForM_q, loopT_n, loopT_c, kLt1_q, kLt2_n, kLt2_r, eM0_q, kM0_q, iR3_q, runF_q, kRun_r, kRun_n, cutT_s, gStarts, gFind, startE, T.toDs, T.toD, cleanT, tyD, tyOk, List.length_cons, List.length_nil, List.length_map, List.map_cons, List.map_nil, List.replicate, List.cons_append, List.nil_append, List.getElem?_cons_zero, List.getElem?_cons_succ, List.set_cons_zero, List.set_cons_succ, Nat.reduceAdd, Nat.reduceSub, Nat.reduceLT, Nat.reduceLeDiff, Nat.zero_add, gAdd_i, gAdd_g, gSub_i, gAddI_i, gMul_l, gMul_r, gDiv_i, gMod_i, gPow_i, gMulA_g, cLt_i, cLe_i, cGt_i, cGe_i, eqQ_i, neQ_i, eqQ_g, neQ_g, eqQ_ints, neQ_ints, eqQ_b, neQ_b, inQ_g, notInQ_g, gLen_g, gStr_i, gStr_s, gSum_p, gSum_l, gLen_p, gLen_l, toD_l, toDs_p, allP_map, ixT_lst, ixT_pl, ixT_pt, ixT_sg, signsD_g, atI_0, atI_1, atI_2, atI_3, atI_4, atI_5, atI_6, ofS, sg_len, ifLe, ifLt, rng_len, decide_true, decide_false, Bool.false_eq_true, Bool.not_true, Bool.not_false, Int.reduceLT, Int.reduceLE, Int.reduceEq, kit_ii, kit_ib, kit_ll, kit_bb, kit_bi, kit_ss, kit_tt, kit_tl, kit_lt, kit_ls, kit_li, kit_lb, kit_is, kit_si, kit_sb, kit_ti, kit_tb, kit_ts]; exact ⟨_, rfl, by omega, by omega⟩
  · simp (disch := omega) only [h, ↓reduceIte, and_self, bindS, mapS, eV_q, kV_p, kV_l, kV_t, eM_q, kM_s, eB_q, kB_s, eC_q, eW_q, kW_p, aN_q, aC_q, kAC_q, kCons_q, aMv_q, kMv_s, kMv2_q, kMv3_s, eL_q, kL_q, eT_q, kT_q, kP_q, kBl_q, kT2_q, eFz_q, kFz_q, eOp_q, kOp1_q, kOp2_q, eCmp_q, kCm1_q, kCm2_q, eNeg_q, kNeg_q, eChain_q, kCh1_q, kCh2_q, kCh3_q, cT_q, kcT_q, cNot_q, kNot_q, cAnd_q, kcAnd_t, kcAnd_f, cOr_q, kcOr_t, kcOr_f, eIf_q, keIf_t, keIf_f, eAnd_q, keAnd_t, keAnd_f, eOr_q, keOr_t, keOr_f, eNot_q, keNot_q, sIf_q, kcIf_t, kcIf_f, eB1_q, kB1_q, eI2_q, kI2_q, eIsi_q, kIsi_q, kLst_q, eList_q, kList_q, kTpl_q, eTuple_q, kTuple_q, eCall_q, kCall_q, kCall2_q, eCallB_q, kCallB_q, kCl_q, allP_n, allP_c, eIx_q, kIx1_q, kIx2_q, oN_q, oS_q, koS_q, eSl_q, kSl1_q, kSl2_q, kSl3_q, cutT_p, cutT_l, sNx_q, sBk_q, sCt_q, sRetN_q, sSeq_q, kSeq_n, kSeq_r, kSeq_b, kSeq_c, sRet_q, kRet_q, sSet_q, kSet_q, sDrop_q, kDrop_q, gNm_q, gEnd_q, gAnd_q, gTp_q, kTp_q, partsT_p, partsT_t, kNx_q, sAsg_q, kAsg_q, sFor_q, kFor_q, loop_n, loop_c, kLp1_q, kLp2_n, kLp2_c, kLp2_b, kLp2_r, iL_q, kiL_q, iTp_q, kiTp_q, iSg_q, kiSg_q, iR1_q, kR1_q, iR2_q, kR2_q, iEn_q, kEn_q, iZp_q, kZp_q, kZp_t, sForV_q, kForV_q, kForV1_q, kForV2_n, kForV2_r, atL_q, kAtL_q, sApp_q, kApp_q, kApp1_q, kApp2_q, sPut_q, kPut_q, kPut1_q, kPut2_q, kPut3_q, kPut4_q, kPutEnd_q, asI_q, sAugIx_q, kAx_q, kAx0_q, kAx1_q, kAx2_q, kAx3_q, kAx4_q, kAx5_q, kAx6_q, kAx7_q, kAx8_q, sAug_q, kAug_q, kAug2_q, kAug3_q, comp_n, comp_c, kCp1_q, kCp2_t, kCp2_f, kCp3_q, kCp4_q, eComp_q, kComp_q, kLs_q, cYes_q, wipe_n, wipe_c, eM1_q, kM11_q, kM12_q, eSplit_q, kSp1_q, kSp2_q, eJoin_q, kJn1_q, kJn2_q, kJn3_q, kJn4_q, eCat_q, kCt0_q, kCt1_q, kCt2_q, kCt3_pl, kCt3_ll, kCt3_lp, kCt3_pp, itemsT_p, itemsT_t, itemsT_ll, isLT_p, isLT_l, eDn_q, eDix_q, kDx1_q, kDx2_q, kDx3_q, kDx4_q, eDget_q, kDg1_q, kDg2_q, kDg3_q, kDg4_q, kDg5_q, eDin_q, kDi1_q, kDi2_q, kDi3_q, kDi4_t, kDi4_f, sPutD_q, kPd1_q, kPd2_q, kPd3_q, kPd4_q, kPd5_q, atD_q, kAtD_q, dicT_p, dicT_o, keyT_i, keyT_s, toD_d, kV_d, sForM_q, kForM_q, loopT_n, loopT_c, kLt1_q, kLt2_n, kLt2_r, eM0_q, kM0_q, iR3_q, runF_q, kRun_r, kRun_n, cutT_s, gStarts, gFind, startE, T.toDs, T.toD, cleanT, tyD, tyOk, List.length_cons, List.length_nil, List.length_map, List.map_cons, List.map_nil, List.replicate, List.cons_append, List.nil_append, List.getElem?_cons_zero, List.getElem?_cons_succ, List.set_cons_zero, List.set_cons_succ, Nat.reduceAdd, Nat.reduceSub, Nat.reduceLT, Nat.reduceLeDiff, Nat.zero_add, gAdd_i, gAdd_g, gSub_i, gAddI_i, gMul_l, gMul_r, gDiv_i, gMod_i, gPow_i, gMulA_g, cLt_i, cLe_i, cGt_i, cGe_i, eqQ_i, neQ_i, eqQ_g, neQ_g, eqQ_ints, neQ_ints, eqQ_b, neQ_b, inQ_g, notInQ_g, gLen_g, gStr_i, gStr_s, gSum_p, gSum_l, gLen_p, gLen_l, toD_l, toDs_p, allP_map, ixT_lst, ixT_pl, ixT_pt, ixT_sg, signsD_g, atI_0, atI_1, atI_2, atI_3, atI_4, atI_5, atI_6, ofS, sg_len, ifLe, ifLt, rng_len, decide_true, decide_false, Bool.false_eq_true, Bool.not_true, Bool.not_false, Int.reduceLT, Int.reduceLE, Int.reduceEq, kit_ii, kit_ib, kit_ll, kit_bb, kit_bi, kit_ss, kit_tt, kit_tl, kit_lt, kit_ls, kit_li, kit_lb, kit_is, kit_si, kit_sb, kit_ti, kit_tb, kit_ts]; exact ⟨_, rfl, by omega, by omega⟩
end LW
namespace DL
open PySem PySem.Spec PyProof.Rows L2
abbrev Nm := List Nat
abbrev eS (l : Nm) : D := .str (sg l)
abbrev eLs {α : Type} (e : α → D) (xs : List α) : D := .lst (xs.map e)
abbrev eSq {α : Type} (e : α → D) (xs : List α) : D := .tup (xs.map e)
section
variable {α β γ δ ε ζ η θ : Type}
abbrev eT2 (a : α → D) (b : β → D) (p : α × β) : D := .tup [a p.1, b p.2]
abbrev eT3 (a : α → D) (b : β → D) (c : γ → D) (p : α × β × γ) : D := .tup [a p.1, b p.2.1, c p.2.2]
abbrev eT7 (a : α → D) (b : β → D) (c : γ → D) (d : δ → D) (e : ε → D) (f : ζ → D) (g : η → D) (p : α × β × γ × δ × ε × ζ × η) : D := .tup [a p.1, b p.2.1, c p.2.2.1, d p.2.2.2.1, e p.2.2.2.2.1, f p.2.2.2.2.2.1, g p.2.2.2.2.2.2]
def eO (e : α → D) : Option α → D
  | none => .non
  | some a => e a
abbrev kS (l : Nm) : Key := .inr (sg l)
abbrev eKd (k : β → Key) (e : α → D) (kv : List (β × α)) : D := .dic (kv.map fun p => (k p.1, e p.2))
abbrev oL (e : α → D) (xs : List α) : T := .lst ((xs.map e).map T.p)
abbrev oE (E : α → T) (xs : List α) : T := .lst (xs.map E)
abbrev oK (k : β → Key) (e : α → D) (kv : List (β × α)) : T := .dic (pairsT (kv.map fun p => (k p.1, e p.2)))
abbrev pE (e : α → D) (x : α) : T := .p (e x)
theorem oE_toD {E : α → T} {e : α → D} (h : ∀ x, (E x).toD = e x) (xs : List α) : (oE E xs).toD = eLs e xs := by
  show D.lst (T.toDs (xs.map E)) = _
  rw [toDs_map2 E e xs fun x _ => h x]
theorem oL_toD {e : α → D} (xs : List α) : (oL e xs).toD = eLs e xs := toD_l
theorem oK_toD {k : β → Key} {e : α → D} (kv : List (β × α)) : (oK k e kv).toD = eKd k e kv := toD_d _
def eOT (E : α → T) : Option α → T
  | none => .p .non
  | some a => E a
inductive Lp (σ ρ : Type) where
  | nx (s : σ) | bk (s : σ) | rt (r : ρ)
def fold {σ : Type} (f : α → σ → Option σ) : List α → σ → Option σ
  | [], s => some s
  | x :: xs, s => (f x s).bind (fold f xs)
def lpB {σ ρ : Type} (k : σ → Option (Lp σ ρ)) : Lp σ ρ → Option (Lp σ ρ)
  | .nx s => k s
  | .bk s => some (.nx s)
  | .rt r => some (.rt r)
def foldB {σ ρ : Type} (f : α → σ → Option (Lp σ ρ)) : List α → σ → Option (Lp σ ρ)
  | [], s => some (.nx s)
  | x :: xs, s => (f x s).bind (lpB (foldB f xs))
def lpK {σ ρ τ : Type} (k : σ → Option τ) (a : ρ → Option τ) : Lp σ ρ → Option τ
  | .nx s => k s
  | .bk _ => none
  | .rt r => a r
def mapO (f : α → Option β) : List α → Option (List β)
  | [] => some []
  | x :: xs => (f x).bind fun y => (mapO f xs).map (y :: ·)
def compO (f : α → Option β) (xs : List α) : Option (List β) := if xs.length ≤ 1000000 then mapO f xs else none
def compT (f : α → β) (xs : List α) : Option (List β) := if xs.length ≤ 1000000 then some (xs.map f) else none
def compOF (p : α → Bool) (f : α → Option β) (xs : List α) : Option (List β) := if xs.length ≤ 1000000 then mapO f (xs.filter p) else none
def compTF (p : α → Bool) (f : α → β) (xs : List α) : Option (List β) := if xs.length ≤ 1000000 then some ((xs.filter p).map f) else none
def mulN (a b : Int) : Option Int := if mulOk a b = true then some (a * b) else none
def divN (a b : Int) : Option Int := if divOk a b = true then some (a / b) else none
def modN (a b : Int) : Option Int := if modOk a b = true then some (a % b) else none
def catS (a b : Nm) : Option Nm := if a.length + b.length ≤ 16777216 then some (a ++ b) else none
def repN (a : Nm) (n : Int) : Option Nm := if -1000000000 < n ∧ n < 1000000000 ∧ a.length * n.toNat ≤ 16777216 then some (List.replicate n.toNat a).flatten else none
def ixS (l : Nm) (i : Int) : Option Nm := if l.length ≤ 16777216 then (atI l i).map fun c => [c] else none
def cutN (l : Nm) (lo hi : Option Int) : Option Nm := if l.length ≤ 16777216 then some (cutA l lo hi) else none
def push (xs : List α) (x : α) : Option (List α) := if xs.length < 16000000 then some (xs ++ [x]) else none
def catL (xs ys : List α) : Option (List α) := if xs.length + ys.length ≤ 16777216 then some (xs ++ ys) else none
def extL (xs ys : List α) : Option (List α) := if xs.length + ys.length < 16000000 then some (xs ++ ys) else none
def putI (xs : List α) (i : Int) (x : α) : Option (List α) := (ixN xs.length i).map fun k => xs.set k x
def rngN (lo : Int) (n : Nat) : List Int := (List.range n).map fun (k : Nat) => lo + (k : Int)
def rng1 (b : Int) : Option (List Int) := if b < 4611686018427387904 ∧ -4611686018427387904 ≤ b then some (rngN 0 b.toNat) else none
def enumN : Nat → List α → List (Int × α)
  | _, [] => []
  | i, x :: xs => ((i : Int), x) :: enumN (i + 1) xs
def lkN [DecidableEq β] (kv : List (β × α)) (k : β) : Option α := (kv.find? fun p => decide (p.1 = k)).map (·.2)
def putN [DecidableEq β] (kv : List (β × α)) (k : β) (x : α) : List (β × α) := if (kv.any fun p => decide (p.1 = k)) = true then kv.map (fun p => if p.1 = k then (p.1, x) else p) else kv ++ [(k, x)]
def putK [DecidableEq β] (kv : List (β × α)) (k : β) (x : α) : Option (List (β × α)) := if kv.length < 16000000 then some (putN kv k x) else none
def mkK [DecidableEq β] (ps : List (β × α)) : List (β × α) := ps.foldl (fun acc p => putN acc p.1 p.2) []
end
def Wp (o : Option (Fl × Env)) (Q : Fl → Env → Prop) : Prop := ∃ fl e, o = some (fl, e) ∧ Q fl e
section
variable {env e e1 e2 e3 : Env} {f fa fb fc : EF} {ra : AF} {c c2 : CF} {A B X Y F : SF} {G : GF} {Q : Fl → Env → Prop} {t u : T} {d a b : D} {it : IF} {ds es : List D} {α β σ ρ : Type}
theorem w_nx (h : Q .nx env) : Wp (sNx env) Q := ⟨_, _, rfl, h⟩
theorem w_seq (h : A env = some (.nx, e1)) (k : Wp (B e1) Q) : Wp (sSeq A B env) Q := by
  obtain ⟨fl, e, h1, h2⟩ := k
  exact ⟨fl, e, by rw [sSeq_q, h, bindS, kSeq_n, h1], h2⟩
theorem seq_assoc : sSeq (sSeq A B) F env = sSeq A (sSeq B F) env := by
  rw [sSeq_q, sSeq_q, sSeq_q]
  cases A env with
  | none => rfl
  | some r =>
    obtain ⟨fl, e⟩ := r
    cases fl <;> rfl
theorem seq_one : sSeq A sNx env = A env := by
  rw [sSeq_q]
  cases A env with
  | none => rfl
  | some r =>
    obtain ⟨fl, e⟩ := r
    cases fl <;> rfl
theorem w_assoc (k : Wp (sSeq A (sSeq B F) env) Q) : Wp (sSeq (sSeq A B) F env) Q := by unfold Wp at *; rw [seq_assoc]; exact k
theorem w_one (k : Wp (sSeq A sNx env) Q) : Wp (A env) Q := by unfold Wp at *; rw [seq_one] at k; exact k
theorem w_snx (k : Wp (B env) Q) : Wp (sSeq sNx B env) Q := k
theorem w_sret (h : f env = some (t, e)) (q : Q (.rt t) e) : Wp (sSeq (sRet f) B env) Q := ⟨.rt t, e, by rw [sSeq_q, sRet_q, h]; rfl, q⟩
theorem w_if {τ : Type} {n1 n2 : Option τ} {r : τ} {v : Bool} (hc : c env = some (v, e)) (h : (if v = true then n1 else n2) = some r) (ht : v = true → n1 = some r → Wp (sSeq X B e) Q) (hf : v = false → n2 = some r → Wp (sSeq Y B e) Q) : Wp (sSeq (sIf c X Y) B env) Q := by
  have hs : sIf c X Y env = if v = true then X e else Y e := by rw [sIf_q, hc]; rfl
  have go : ∀ Z : SF, Wp (sSeq Z B e) Q → sIf c X Y env = Z e → Wp (sSeq (sIf c X Y) B env) Q := fun Z hz he => by
    obtain ⟨fl, e', h1, h2⟩ := hz
    exact ⟨fl, e', by rw [sSeq_q, he, ← sSeq_q, h1], h2⟩
  cases v with
  | true => exact go X (ht rfl h) hs
  | false => exact go Y (hf rfl h) hs
theorem w_join {P : Env → Prop} (h1 : Wp (A env) fun fl e => fl = .nx ∧ P e) (h2 : ∀ e, P e → Wp (B e) Q) : Wp (sSeq A B env) Q := by
  obtain ⟨fl, e, h, rfl, p⟩ := h1
  exact w_seq h (h2 e p)
theorem w_set {i : Nat} (h : f env = some (t, e)) (hi : i < e.length) : sSet i f env = some (.nx, e.set i (some t)) := by
  rw [sSet_q, h, bindS, kSet_q, if_pos hi]
theorem w_for {P : Env → Prop} (hi : it env = some (ds, e1)) (hl : ∃ e2, loopD G F ds e1 = some (.nx, e2) ∧ P e2) (k : ∀ e, P e → Wp (B e) Q) : Wp (sSeq (sFor it G F) B env) Q := by
  obtain ⟨e2, h, p⟩ := hl
  exact w_seq (by rw [sFor_q, hi, bindS, kFor_q, h]) (k e2 p)
theorem w_forB {τ : Type} {R : σ → Env → Prop} {ET : ρ → T} {o : Lp σ ρ} {k : σ → Option τ} {w : ρ → Option τ} {r : τ} (hi : it env = some (ds, e1))
    (hl : ∃ fl e2, loopD G F ds e1 = some (fl, e2) ∧ (match o with | .nx s => fl = .nx ∧ R s e2 | .rt r => fl = .rt (ET r) | .bk _ => False))
    (h : lpK k w o = some r) (hk : ∀ s e, R s e → k s = some r → Wp (B e) Q) (hw : ∀ v e, w v = some r → Q (.rt (ET v)) e) : Wp (sSeq (sFor it G F) B env) Q := by
  obtain ⟨fl, e2, h1, p⟩ := hl
  cases o with
  | nx s =>
    obtain ⟨rfl, p⟩ := p
    exact w_seq (by rw [sFor_q, hi, bindS, kFor_q, h1]) (hk s e2 p h)
  | rt v =>
    have p : fl = .rt (ET v) := p
    subst p
    exact ⟨.rt (ET v), e2, by rw [sSeq_q, sFor_q, hi, bindS, kFor_q, h1]; rfl, hw v e2 h⟩
  | bk s => exact p.elim
theorem loop_fold (R : σ → Env → Prop) {dd : α → D} {fn : α → σ → Option σ} (hb : ∀ x s s' env, R s env → fn x s = some s' → ∃ e1, G (.p (dd x)) env = some e1 ∧ Wp (F e1) fun fl e => (fl = .nx ∨ fl = .ct) ∧ R s' e) :
    ∀ (xs : List α) (s s' : σ) (env : Env), R s env → fold fn xs s = some s' → ∃ e2, loopD G F (xs.map dd) env = some (.nx, e2) ∧ R s' e2
  | [], s, s', env, hr, h => by cases h; exact ⟨env, rfl, hr⟩
  | x :: xs, s, s', env, hr, h => by
    obtain ⟨s1, h1, h2⟩ := obind h
    obtain ⟨e1, g1, fl, e2, g2, g3, g4⟩ := hb x s s1 env hr h1
    obtain ⟨e3, g5, g6⟩ := loop_fold R hb xs s1 s' e2 g4 h2
    refine ⟨e3, ?_, g6⟩
    rw [List.map_cons, loop_c, g1, bindS, kLp1_q, g2, bindS]
    rcases g3 with rfl | rfl
    · rw [kLp2_n, g5]
    · rw [kLp2_c, g5]
def QB (R : σ → Env → Prop) (ET : ρ → T) : Lp σ ρ → Fl → Env → Prop
  | .nx s => fun fl e => (fl = .nx ∨ fl = .ct) ∧ R s e
  | .bk s => fun fl e => fl = .bk ∧ R s e
  | .rt r => fun fl _ => fl = .rt (ET r)
theorem loop_foldB (R : σ → Env → Prop) (ET : ρ → T) {dd : α → D} {fn : α → σ → Option (Lp σ ρ)} (hb : ∀ x s o env, R s env → fn x s = some o → ∃ e1, G (.p (dd x)) env = some e1 ∧ Wp (F e1) (QB R ET o)) :
    ∀ (xs : List α) (s : σ) (o : Lp σ ρ) (env : Env), R s env → foldB fn xs s = some o → ∃ fl e2, loopD G F (xs.map dd) env = some (fl, e2) ∧ (match o with | .nx s => fl = .nx ∧ R s e2 | .rt r => fl = .rt (ET r) | .bk _ => False)
  | [], s, o, env, hr, h => by cases h; exact ⟨_, env, rfl, rfl, hr⟩
  | x :: xs, s, o, env, hr, h => by
    obtain ⟨p, h1, h2⟩ := obind h
    obtain ⟨e1, g1, fl, e2, g2, g3⟩ := hb x s p env hr h1
    cases p with
    | nx s1 =>
      obtain ⟨g3, g4⟩ := g3
      obtain ⟨fl3, e3, g5, g6⟩ := loop_foldB R ET hb xs s1 o e2 g4 h2
      refine ⟨fl3, e3, ?_, g6⟩
      rw [List.map_cons, loop_c, g1, bindS, kLp1_q, g2, bindS]
      rcases g3 with rfl | rfl
      · rw [kLp2_n, g5]
      · rw [kLp2_c, g5]
    | bk s1 =>
      obtain ⟨rfl, g4⟩ := g3
      cases h2
      exact ⟨_, e2, by rw [List.map_cons, loop_c, g1, bindS, kLp1_q, g2, bindS, kLp2_b], rfl, g4⟩
    | rt r =>
      have g3 : fl = .rt (ET r) := g3
      subst g3
      cases h2
      exact ⟨_, e2, by rw [List.map_cons, loop_c, g1, bindS, kLp1_q, g2, bindS, kLp2_r], rfl⟩
theorem runF_wp {n k : Nat} {xs : List D} {t : T} (hk : xs.length = k) (h : Wp (F (startE n xs)) fun fl _ => fl = .rt t ∨ (fl = .nx ∧ t = .p .non)) : runF n k F xs = some t := by
  obtain ⟨fl, e, h1, h2⟩ := h
  unfold runF
  rw [if_pos hk, h1]
  rcases h2 with rfl | ⟨rfl, rfl⟩ <;> rfl
theorem bnd {τ υ : Type} {o : Option τ} {k : τ → Option υ} {r : υ} {P : Prop} (h : o.bind k = some r) (g : ∀ v, o = some v → k v = some r → P) : P := by
  obtain ⟨v, h1, h2⟩ := obind h
  exact g v h1 h2
end
end DL
namespace DL
open PySem PySem.Spec PyProof.Rows L2
section
variable {env e e1 e2 e3 w : Env} {f fa fb fc fi fo fk fx : EF} {ra : AF} {c c2 test : CF} {G : GF} {it : IF} {t u v : T} {ts us : List T} {d x y z : D} {ds es : List D} {i j k n : Nat} {a b m : Int} {p q : Nm} {α β κ : Type}
theorem e_v (h : env[i]? = some (some (.p d))) : eV i env = some (.p d, env) := by rw [eV_q, h]; rfl
theorem e_vl {xs : List T} (h : env[i]? = some (some (.lst xs))) (hd : (T.lst xs).toD = d) : eV i env = some (.p d, env.set i (some (.p d))) := by rw [eV_q, h, ← hd]; rfl
theorem e_m (h : env[i]? = some (some t)) : eM i env = some (t, env.set i none) := by rw [eM_q, h]; rfl
theorem e_b (h : env[i]? = some (some t)) : eB i env = some (t, env) := by rw [eB_q, h]; rfl
theorem e_c : eC d env = some (.p d, env) := rfl
theorem e_s (s : String) : eC (.str (PySem.Str.ofString s)) env = some (.p (eS (cod s)), env) := by rw [ofS]; rfl
theorem e_w (h : f env = some (.p d, e)) : eW f env = some (.p d, e) := by rw [eW_q, h]; rfl
theorem e_fz (h : f env = some (t, e)) (hd : t.toD = d) : eFz f env = some (.p d, e) := by rw [eFz_q, h, ← hd]; rfl
theorem a_n : aN env = some ([], env) := rfl
theorem a_c (h : f env = some (t, e1)) (hr : ra e1 = some (ts, e2)) : aC f ra env = some (t :: ts, e2) := by rw [aC_q, h, bindS, kAC_q, hr]; rfl
theorem e_l (h : ra env = some (ts, e)) (hl : Nat.ble ts.length 1000 = true) (ht : T.lst ts = t) : eL ra env = some (t, e) := by rw [eL_q, h, bindS, kL_q, if_pos (Nat.le_of_ble_eq_true hl), ht]
theorem e_t (h : ra env = some (ts, e)) (hl : Nat.ble ts.length 1000 = true) (ht : mkTup ts = t) : eT ra env = some (t, e) := by rw [eT_q, h, bindS, kT_q, if_pos (Nat.le_of_ble_eq_true hl), ht]
theorem e_op {g : D → D → Option D} (h1 : fa env = some (.p x, e1)) (h2 : fb e1 = some (.p y, e2)) (hg : g x y = some z) : eOp g fa fb env = some (.p z, e2) := by rw [eOp_q, h1, bindS, kOp1_q, h2, bindS, kOp2_q, hg]; rfl
theorem e_cmp {g : D → D → Option Bool} {r : Bool} (h1 : fa env = some (t, e1)) (h2 : fb e1 = some (u, e2)) (d1 : t.toD = x) (d2 : u.toD = y) (hg : g x y = some r) : eCmp g fa fb env = some (.p (.bl r), e2) := by rw [eCmp_q, h1, bindS, kCm1_q, h2, bindS, kCm2_q, d1, d2, hg]; rfl
theorem e_neg (h : f env = some (.p (.int a), e)) : eNeg f env = some (.p (.int (-a)), e) := by rw [eNeg_q, h]; rfl
theorem g_mul (h : mulN a b = some m) : gMul (.int a) (.int b) = some (.int m) := by
  unfold mulN at h
  split at h
  · rename_i c; cases h; exact if_pos c
  · cases h
theorem g_mod (h : modN a b = some m) : gMod (.int a) (.int b) = some (.int m) := by
  unfold modN at h
  split at h
  · rename_i c; cases h; exact if_pos c
  · cases h
def litM (b : Int) : Bool := decide (-18446744073709551616 < b ∧ b < 18446744073709551616)
theorem g_mulL (h : litM a = true) : gMul (.int a) (.int b) = some (.int (a * b)) := gMul_l (of_decide_eq_true h).1 (of_decide_eq_true h).2
theorem g_divR (h : decide (0 < b ∧ b < 1606938044258990275541962092341162602522202993782792835301376) = true) : gDiv (.int a) (.int b) = some (.int (a / b)) := gDiv_i (of_decide_eq_true h).1 (of_decide_eq_true h).2
theorem g_modR (h : decide (0 < b) = true) : gMod (.int a) (.int b) = some (.int (a % b)) := gMod_i (of_decide_eq_true h)
theorem g_powR (h : decide (0 ≤ b ∧ b ≤ 1000 ∧ 0 ≤ a ∧ a < 18446744073709551616) = true) : gPow (.int a) (.int b) = some (.int (a ^ b.toNat)) := gPow_i (of_decide_eq_true h).1 (of_decide_eq_true h).2.1 (of_decide_eq_true h).2.2.1 (of_decide_eq_true h).2.2.2
theorem g_cat (h : catS p q = some r) : gAdd (eS p) (eS q) = some (eS r) := by
  unfold catS at h
  split at h
  · rename_i c; cases h; exact gAdd_g c
  · cases h
theorem g_ne {r : Bool} (h : eqQ x y = some r) : neQ x y = some (!r) := by unfold neQ; rw [h]; rfl
theorem g_nin {r : Bool} (h : inQ x y = some r) : notInQ x y = some (!r) := by unfold notInQ; rw [h]; rfl
theorem g_inL (p : Nm) (xs : List Nm) : inQ (eS p) (eLs eS xs) = some (decide (p ∈ xs)) := by
  have := inQ_strs (sg p) (xs.map sg)
  rw [List.map_map] at this
  show inQ (.str (sg p)) (.lst (xs.map eS)) = _
  rw [show xs.map eS = xs.map (D.str ∘ sg) from rfl, this]
  congr 1
  apply decide_eq_decide.mpr
  rw [List.mem_map]
  exact ⟨fun ⟨y, h1, h2⟩ => by rw [← sg_inj.mp h2]; exact h1, fun h => ⟨p, h, rfl⟩⟩
theorem g_isO {e : α → D} (he : ∀ v, isN (e v) .non = some false) : ∀ o : Option α, isN (eO e o) .non = some o.isNone
  | none => rfl
  | some v => he v
theorem g_isnt {r : Bool} (h : isN x .non = some r) : isNotN x .non = some (!r) := by unfold isNotN; rw [h]; rfl
theorem c_t {r : Bool} (h : f env = some (.p (.bl r), e)) : cT f env = some (r, e) := by rw [cT_q, h]; rfl
theorem c_not {r : Bool} (h : c env = some (r, e)) : cNot c env = some (!r, e) := by rw [cNot_q, h]; rfl
theorem c_and {r s : Bool} (h : c env = some (r, e)) (h2 : c2 e = some (s, e)) : cAnd c c2 env = some (r && s, e) := by
  rw [cAnd_q, h, bindS]; cases r
  · rfl
  · exact h2
theorem c_or {r s : Bool} (h : c env = some (r, e)) (h2 : c2 e = some (s, e)) : cOr c c2 env = some (r || s, e) := by
  rw [cOr_q, h, bindS]; cases r
  · exact h2
  · rfl
theorem c_orO {r s : Bool} {o : Option Bool} (h : c env = some (r, e)) (ho : (if r = true then some true else o) = some s) (h2 : r = false → o = some s → c2 e = some (s, e)) : cOr c c2 env = some (s, e) := by
  rw [cOr_q, h, bindS]; cases r
  · exact h2 rfl ho
  · cases ho; rfl
theorem e_b1 {g : T → Option D} (h : f env = some (t, e)) (hg : g t = some d) : eB1 g f env = some (.p d, e) := by rw [eB1_q, h, bindS, kB1_q, hg]; rfl
theorem g_lenL (xs : List α) (dd : α → D) : gLen (.p (.lst (xs.map dd))) = some (.int (xs.length : Int)) := by rw [gLen_p, List.length_map]
theorem g_lenO (xs : List α) (dd : α → D) : gLen (oL dd xs) = some (.int (xs.length : Int)) := by rw [gLen_l, List.length_map, List.length_map]
theorem g_lenE (xs : List α) (E : α → T) : gLen (oE E xs) = some (.int (xs.length : Int)) := by rw [gLen_l, List.length_map]
theorem e_isi {ty : String} {r : Bool} (h : f env = some (t, e)) (hd : t.toD = d) (hk : tyOk d = true) (hr : kitB (tyD d) ty = some r) : eIsi ty f env = some (.p (.bl r), e) := by rw [eIsi_q, h, bindS, kIsi_q, hd, if_pos hk, hr]; rfl
theorem e_list (h : f env = some (t, e)) (hi : itemsT t = some ds) (hd : ds.map T.p = ts) : eList f env = some (.lst ts, e) := by rw [eList_q, h, bindS, kList_q, hi, ← hd]; rfl
theorem it_o (xs : List α) (dd : α → D) : itemsT (oL dd xs) = some (xs.map dd) := itemsT_l
theorem e_call {φ : List D → Option T} (h : ra env = some (ts, e)) (hp : allP ts = some ds) (hc : φ ds = some t) : eCall φ ra env = some (t, e) := by rw [eCall_q, h, bindS, kCall_q, hp, bindS, kCall2_q, hc]; rfl
theorem e_callB {φ : List D → Option T} (h : ra env = some (ts, e)) (hp : T.toDs ts = ds) (hc : φ ds = some t) (hk : cleanT t = true) : eCallB φ ra env = some (t, e) := by rw [eCallB_q, h, bindS, kCallB_q, hp, hc, bindS, kCl_q, if_pos hk]
theorem cl_l {dd : α → D} (h : ∀ x, cleanT (.p (dd x)) = true) : ∀ xs : List α, cleanT (oL dd xs) = true
  | [] => rfl
  | x :: xs => by
    have := cl_l h xs
    show (cleanT (.p (dd x)) && cleanTs ((xs.map dd).map T.p)) = true
    rw [h x]; exact this
theorem e_ix (h1 : fa env = some (t, e1)) (h2 : fi e1 = some (.p (.int a), e2)) (h : ixT t a = some u) : eIx fa fi env = some (u, e2) := by rw [eIx_q, h1, bindS, kIx1_q, h2, bindS, kIx2_q, h]; rfl
theorem x_l {xs : List α} {dd : α → D} {x : α} (h : atI xs a = some x) : ixT (.p (.lst (xs.map dd))) a = some (.p (dd x)) := by rw [ixT_pl, atI_map, h]; rfl
theorem x_o {xs : List α} {dd : α → D} {x : α} (h : atI xs a = some x) : ixT (oL dd xs) a = some (.p (dd x)) := by rw [ixT_lst, atI_map, atI_map, h]; rfl
theorem x_e {xs : List α} {E : α → T} {x : α} (h : atI xs a = some x) : ixT (oE E xs) a = some (E x) := by rw [ixT_lst, atI_map, h]; rfl
theorem x_s (h : ixS p a = some q) : ixT (.p (eS p)) a = some (.p (eS q)) := by
  unfold ixS at h
  split at h
  · rename_i c
    obtain ⟨z, h1, rfl⟩ := omap h
    rw [ixT_sg c, h1]; rfl
  · cases h
theorem x_t (n : Nat) (h : ds[n]? = some d) : ixT (.p (.tup ds)) (n : Int) = some (.p d) := by
  rw [ixT_pt]
  have : atI ds (n : Int) = some d := atI_nat h
  rw [this]; rfl
def ixD (d : D) (i : Int) : Option D := match ixT (.p d) i with
  | some (.p x) => some x
  | _ => none
theorem x_d (h : ixD d a = some x) : ixT (.p d) a = some (.p x) := by
  unfold ixD at h
  split at h
  · rename_i y e; cases h; exact e
  · cases h
theorem o_n : oN env = some (none, env) := rfl
theorem o_s (h : f env = some (.p (.int a), e)) : oS f env = some (some a, e) := by rw [oS_q, h]; rfl
theorem e_sl {lo hi : OF} {l r : Option Int} (h1 : fa env = some (t, e1)) (h2 : lo e1 = some (l, e2)) (h3 : hi e2 = some (r, e3)) (h : cutT t l r = some u) : eSl fa lo hi env = some (u, e3) := by rw [eSl_q, h1, bindS, kSl1_q, h2, bindS, kSl2_q, h3, bindS, kSl3_q, h]; rfl
theorem s_l {xs : List α} {dd : α → D} {l r : Option Int} : cutT (.p (.lst (xs.map dd))) l r = some (oL dd (cutA xs l r)) := by rw [cutT_p, cutD_map]
theorem cutS_g (l : Nm) (lo hi : Option Int) : cutS (sg l) lo hi = sg (cutA l lo hi) := rfl
theorem s_s {l r : Option Int} (h : cutN p l r = some q) : cutT (.p (eS p)) l r = some (.p (eS q)) := by
  unfold cutN at h
  split at h
  · rename_i c; cases h; rw [cutT_s (by rw [sg_len]; exact c), cutS_g]
  · cases h
theorem i_l (h : f env = some (.p (.lst ds), e)) : iL f env = some (ds, e) := by rw [iL_q, h]; rfl
theorem rngD_N (lo : Int) (n : Nat) : rngD lo n = (rngN lo n).map D.int := by unfold rngD rngN; rw [List.map_map]; rfl
theorem i_r1 {xs : List Int} (h : ra env = some ([.p (.int a)], e)) (hx : rng1 a = some xs) : iR1 ra env = some (xs.map D.int, e) := by
  unfold rng1 at hx
  split at hx
  · rename_i c; cases hx; rw [iR1_q, h, bindS, kR1_q c.2 c.1, rngD_N]
  · cases hx
theorem enumD_N {dd : α → D} : ∀ (k : Nat) (xs : List α), enumD k (xs.map dd) = (enumN k xs).map (eT2 D.int dd)
  | _, [] => rfl
  | k, x :: xs => by rw [List.map_cons, enumD, enumD_N (k + 1) xs]; rfl
theorem i_en {xs : List α} {dd : α → D} (h : ra env = some ([.p (.lst (xs.map dd))], e)) : iEn ra env = some ((enumN 0 xs).map (eT2 D.int dd), e) := by rw [iEn_q, h, bindS, kEn_q, enumD_N]
theorem comp_go {own : List Nat} {elt : EF} {dd : α → D} {E : β → T} {p : α → Bool} {fn : α → Option β}
    (hb : ∀ x, ∃ e1, G (.p (dd x)) w = some e1 ∧ ∃ e2, test e1 = some (p x, e2) ∧ (p x = false → wipeE e2 own = w) ∧ ∀ y, p x = true → fn x = some y → ∃ e3, elt e2 = some (E y, e3) ∧ wipeE e3 own = w) :
    ∀ (xs : List α) (ys : List β), mapO fn (xs.filter p) = some ys → compD own G test elt (xs.map dd) w = some (ys.map E, w)
  | [], ys, h => by cases h; rfl
  | x :: xs, ys, h => by
    obtain ⟨e1, h1, e2, h2, h3, h4⟩ := hb x
    rw [List.map_cons, comp_c, h1, bindS, kCp1_q, h2, bindS]
    cases hp : p x with
    | false =>
      rw [List.filter_cons_of_neg (by rw [hp]; simp)] at h
      rw [kCp2_f, h3 hp]
      exact comp_go hb xs ys h
    | true =>
      rw [List.filter_cons_of_pos hp] at h
      obtain ⟨y, k1, k2⟩ := obind h
      obtain ⟨zs, k3, rfl⟩ := omap k2
      obtain ⟨e3, h5, h6⟩ := h4 y hp k1
      rw [kCp2_t, h5, bindS, kCp3_q, h6, comp_go hb xs zs k3, mapS, kCp4_q]; rfl
theorem mapO_some (g : α → β) : ∀ xs : List α, mapO (fun x => some (g x)) xs = some (xs.map g)
  | [] => rfl
  | x :: xs => by show ((mapO (fun x => some (g x)) xs).map (g x :: ·)) = _; rw [mapO_some g xs]; rfl
theorem e_comp {own : List Nat} {elt : EF} {dd : α → D} {E : β → T} {p : α → Bool} {fn : α → Option β} {xs : List α} {ys : List β} (hi : it env = some (xs.map dd, e)) (hw : wipeE e own = w) (h : compOF p fn xs = some ys)
    (hb : ∀ x, ∃ e1, G (.p (dd x)) w = some e1 ∧ ∃ e2, test e1 = some (p x, e2) ∧ (p x = false → wipeE e2 own = w) ∧ ∀ y, p x = true → fn x = some y → ∃ e3, elt e2 = some (E y, e3) ∧ wipeE e3 own = w) :
    eComp own it G test elt env = some (oE E ys, w) := by
  unfold compOF at h
  split at h
  · rename_i c
    rw [eComp_q, hi, bindS, kComp_q, if_pos (by rw [List.length_map]; exact c), hw, comp_go hb xs ys h]; rfl
  · cases h
theorem compO_F (fn : α → Option β) (xs : List α) : compO fn xs = compOF (fun _ => true) fn xs := by
  unfold compO compOF
  rw [List.filter_eq_self.mpr fun _ _ => rfl]
theorem compTF_F (p : α → Bool) (g : α → β) (xs : List α) : compTF p g xs = compOF p (fun x => some (g x)) xs := by
  unfold compTF compOF
  rw [mapO_some]
theorem compT_F (g : α → β) (xs : List α) : compT g xs = compOF (fun _ => true) (fun x => some (g x)) xs := by
  unfold compT compOF
  rw [mapO_some, List.filter_eq_self.mpr fun _ _ => rfl]
theorem oE_p (e : α → D) (xs : List α) : oE (pE e) xs = oL e xs := by show T.lst _ = T.lst _; rw [List.map_map]; rfl
end
end DL
namespace DL
open PySem PySem.Spec PyProof.Rows L2
section
variable {env e e1 e2 e3 w : Env} {f fa fb fc fi fo fk fx : EF} {ra : AF} {c c2 test : CF} {G : GF} {it : IF} {A B F : SF} {Q : Fl → Env → Prop} {t u v : T} {ts us : List T} {d x y z : D} {ds es : List D} {i j k n : Nat} {a b m : Int} {p q : Nm} {α β κ σ ρ : Type}
theorem w_app {xs : List T} {ys : List T} (h0 : env[i]? = some (some (.lst xs))) (h : f env = some (t, e)) (h1 : e[i]? = some (some (.lst ys))) (hl : ys.length < 16000000) : sApp i f env = some (.nx, e.set i (some (.lst (ys ++ [t])))) := by
  rw [sApp_q, atL_q, h0, kAtL_q, bindS, kApp_q, h, bindS, kApp1_q, atL_q, h1, kAtL_q, bindS, kApp2_q, if_pos hl]
theorem w_appL {xs zs : List α} {dd : α → D} {x : α} (h0 : env[i]? = some (some (oL dd xs))) (h : f env = some (.p (dd x), e)) (h1 : e[i]? = some (some (oL dd xs))) (hp : push xs x = some zs) : sApp i f env = some (.nx, e.set i (some (oL dd zs))) := by
  unfold push at hp
  split at hp
  · rename_i c
    cases hp
    rw [w_app h0 h h1 (by rw [List.length_map, List.length_map]; exact c)]
    simp only [oL, List.map_append, List.map_cons, List.map_nil]
  · cases hp
theorem w_aug {g : D → D → Option D} (h0 : env[i]? = some (some (.p x))) (h : f env = some (.p y, e)) (hg : g x y = some z) (hi : i < e.length) : sAug i g f env = some (.nx, e.set i (some (.p z))) := by
  rw [sAug_q, h0, kAug_q, h, bindS, kAug2_q, hg, bindS, kAug3_q, if_pos hi]
theorem p_nm (h : env[i]? = some (some t)) : pNm i env = some ([], env) := by unfold pNm; rw [h]
theorem at_nm (h : env[i]? = some (some t)) : atP env i [] = some t := by unfold atP; rw [h]; rfl
theorem put_nm (h : env[i]? = some (some t)) : putP env i [] u = env.set i (some u) := by rw [putP_eq h]; rfl
theorem w_rev {xs : List α} {dd : α → D} (h : env[i]? = some (some (oL dd xs))) : sRevP i (pNm i) env = some (.nx, env.set i (some (oL dd xs.reverse))) := by
  unfold sRevP
  rw [p_nm h]
  show (atP env i []).bind _ = _
  rw [at_nm h]
  show some (Fl.nx, putP env i [] _) = _
  rw [put_nm h]
  show some (Fl.nx, env.set i (some (T.lst ((xs.map dd).map T.p).reverse))) = _
  rw [← List.map_reverse, ← List.map_reverse]
section
variable [DecidableEq β] {kk : β → Key} {dd : α → D}
theorem val_lk (hk : ∀ a b, kk a = kk b → a = b) : ∀ (kv : List (β × α)) (k : β), valD (kv.map fun p => (kk p.1, dd p.2)) (kk k) = (lkN kv k).map dd
  | [], k => rfl
  | (j, x) :: r, k => by
    rw [List.map_cons, valD_cons, val_lk hk r k]
    unfold lkN
    by_cases c : j = k
    · subst c; simp
    · rw [if_neg fun h => c (hk _ _ h)]
      simp [c]
theorem any_lk (hk : ∀ a b, kk a = kk b → a = b) (kv : List (β × α)) (k : β) : ((kv.map fun p => (kk p.1, dd p.2)).any fun p => decide (p.1 = kk k)) = (kv.any fun p => decide (p.1 = k)) := by
  rw [List.any_map]
  congr 1
  funext p
  show decide (kk p.1 = kk k) = decide (p.1 = k)
  exact decide_eq_decide.mpr ⟨hk _ _, fun h => by rw [h]⟩
theorem put_lk (hk : ∀ a b, kk a = kk b → a = b) (kv : List (β × α)) (k : β) (x : α) : putD (kv.map fun p => (kk p.1, dd p.2)) (kk k) (dd x) = (putN kv k x).map fun p => (kk p.1, dd p.2) := by
  unfold putD putN
  rw [any_lk hk]
  split
  · rw [List.map_map, List.map_map]
    apply List.map_congr_left
    intro p _
    show (if kk p.1 = kk k then _ else _) = _
    by_cases c : p.1 = k
    · rw [if_pos (by rw [c])]; simp [c]
    · rw [if_neg fun h => c (hk _ _ h)]; simp [c]
  · rw [List.map_append]; rfl
theorem kS_inj : ∀ a b, kS a = kS b → a = b := fun a b h => sg_inj.mp (Sum.inr.inj h)
theorem dic_o (kv : List (β × α)) : dicT (oK kk dd kv) = some (kv.map fun p => (kk p.1, dd p.2)) := dicT_o
theorem e_dn : eDn env = some (oK kk dd [], env) := rfl
theorem e_dix (hk : ∀ a b, kk a = kk b → a = b) {kv : List (β × α)} {k : β} {x : α} (h1 : fo env = some (t, e1)) (hd : dicT t = some (kv.map fun p => (kk p.1, dd p.2))) (h2 : fi e1 = some (u, e2)) (h3 : keyT u = some (kk k)) (h : lkN kv k = some x) : eDix fo fi env = some (.p (dd x), e2) := by
  unfold eDix
  rw [h1]
  show (fi e1).bind _ = _
  rw [h2]
  show (dicT t).bind _ = _
  rw [hd]
  show (keyT u).bind _ = _
  rw [h3]
  show (valD _ _).map _ = _
  rw [val_lk hk, h]; rfl
theorem e_din (hk : ∀ a b, kk a = kk b → a = b) {b : Bool} {kv : List (β × α)} {k : β} (h2 : fi env = some (u, e1)) (h1 : fo e1 = some (t, e2)) (hd : dicT t = some (kv.map fun p => (kk p.1, dd p.2))) (h3 : keyT u = some (kk k)) : eDin b fi fo env = some (.p (.bl (if b then (lkN kv k).isSome else !(lkN kv k).isSome)), e2) := by
  unfold eDin
  rw [h2]
  show (fo e1).bind _ = _
  rw [h1]
  show (dicT t).bind _ = _
  rw [hd]
  show (keyT u).bind _ = _
  rw [h3]
  show some _ = _
  rw [val_lk hk]
  cases lkN kv k <;> rfl
theorem w_putD (hk : ∀ a b, kk a = kk b → a = b) {kv kv2 : List (β × α)} {k : β} {x : α} (h : f env = some (.p (dd x), e)) (h0 : e[i]? = some (some (oK kk dd kv))) (hj : fk e = some (u, e1)) (h3 : keyT u = some (kk k)) (h1 : e1[i]? = some (some (oK kk dd kv))) (hp : putK kv k x = some kv2) : sPutD i fk f env = some (.nx, e1.set i (some (oK kk dd kv2))) := by
  unfold putK at hp
  split at hp
  · rename_i c
    cases hp
    have g : ∀ e : Env, e[i]? = some (some (oK kk dd kv)) → atD e i = some (kv.map fun p => (kk p.1, dd p.2)) := fun e he => by rw [atD_q, he]; exact dic_o kv
    unfold sPutD
    rw [h]
    show (atD e i).bind _ = _
    rw [g e h0]
    show (fk e).bind _ = _
    rw [hj]
    show (keyT u).bind _ = _
    rw [h3]
    show (atD e1 i).bind _ = _
    rw [g e1 h1]
    show (if (kv.map fun p => (kk p.1, dd p.2)).length < 16000000 then _ else _) = _
    rw [if_pos (by rw [List.length_map]; exact c), put_lk hk]
  · cases hp
theorem keyS (p : Nm) : keyT (.p (eS p)) = some (kS p) := rfl
end
end
end DL
namespace DL
open PySem PySem.Spec PyProof.Rows L2
abbrev eD (d : D) : D := d
section
variable {env e e1 : Env} {f : EF} {t : T} {ts : List T} {d : D} {ds : List D} {i : Nat} {α β : Type}
theorem u_p (d : D) : (T.p d).toD = d := rfl
theorem u_n : T.toDs [] = [] := rfl
theorem u_c (h : t.toD = d) (hs : T.toDs ts = ds) : T.toDs (t :: ts) = d :: ds := by show t.toD :: T.toDs ts = _; rw [h, hs]
theorem u_t (hs : T.toDs ts = ds) : (T.tup ts).toD = .tup ds := by show D.tup (T.toDs ts) = _; rw [hs]
theorem w_set2 {e' : Env} (h : f env = some (t, e)) (hi : Nat.ble (i + 1) e.length = true) (he : e.set i (some t) = e') : sSet i f env = some (.nx, e') := by rw [← he]; exact w_set h (Nat.le_of_ble_eq_true hi)
theorem w_aug2 {g : D → D → Option D} {x y z : D} {e' : Env} (h0 : env[i]? = some (some (.p x))) (h : f env = some (.p y, e)) (hg : g x y = some z) (hi : Nat.ble (i + 1) e.length = true) (he : e.set i (some (.p z)) = e') : sAug i g f env = some (.nx, e') := by rw [← he]; exact w_aug h0 h hg (Nat.le_of_ble_eq_true hi)
theorem e_compP {own : List Nat} {w : Env} {G : GF} {test : CF} {it : IF} {elt : EF} {dd : α → D} {E : β → D} {p : α → Bool} {fn : α → Option β} {xs : List α} {ys : List β} (hi : it env = some (xs.map dd, e)) (hw : wipeE e own = w) (h : compOF p fn xs = some ys)
    (hb : ∀ x, ∃ e1, G (.p (dd x)) w = some e1 ∧ ∃ e2, test e1 = some (p x, e2) ∧ (p x = false → wipeE e2 own = w) ∧ ∀ y, p x = true → fn x = some y → ∃ e3, elt e2 = some (.p (E y), e3) ∧ wipeE e3 own = w) :
    eComp own it G test elt env = some (oL E ys, w) := by
  rw [← oE_p]
  exact e_comp (E := pE E) hi hw h hb
end
def joinN (s : Nm) (ls : List Nm) : Option Nm := if (ls.map (·.length)).sum + ls.length * s.length ≤ 16777216 then some (TL.joinL s ls) else none
section
variable {env e e1 e2 w : Env} {f fa fb fo fe : EF} {t u : T} {A : SF} {Q : Fl → Env → Prop} {α β : Type} {p q r : Nm} {a : Int}
theorem w_un (h : Wp (A env) Q) : Wp (sSeq A sNx env) Q := by unfold Wp at *; rw [seq_one]; exact h
theorem ifs {τ : Type} {v : Bool} {n1 n2 : Option τ} {r : τ} {P : Prop} (h : (if v = true then n1 else n2) = some r) (h1 : v = true → n1 = some r → P) (h2 : v = false → n2 = some r → P) : P := by
  cases v with
  | true => exact h1 rfl h
  | false => exact h2 rfl h
def mapG (f : α → Option (Option β)) : List α → Option (List β)
  | [] => some []
  | x :: xs => (f x).bind fun o => match o with
    | none => mapG f xs
    | some y => (mapG f xs).map (y :: ·)
def compG (f : α → Option (Option β)) (xs : List α) : Option (List β) := if xs.length ≤ 1000000 then mapG f xs else none
theorem compG_go {own : List Nat} {G : GF} {test : CF} {elt : EF} {dd : α → D} {E : β → T} {fn : α → Option (Option β)}
    (hb : ∀ x o, fn x = some o → ∃ e1, G (.p (dd x)) w = some e1 ∧ ∃ b e2, test e1 = some (b, e2) ∧ ((b = false ∧ o = none ∧ wipeE e2 own = w) ∨ (b = true ∧ ∃ y, o = some y ∧ ∃ e3, elt e2 = some (E y, e3) ∧ wipeE e3 own = w))) :
    ∀ (xs : List α) (ys : List β), mapG fn xs = some ys → compD own G test elt (xs.map dd) w = some (ys.map E, w)
  | [], ys, h => by cases h; rfl
  | x :: xs, ys, h => by
    obtain ⟨o, k1, k2⟩ := obind h
    obtain ⟨e1, h1, b, e2, h2, h3⟩ := hb x o k1
    rw [List.map_cons, comp_c, h1, bindS, kCp1_q, h2, bindS]
    rcases h3 with ⟨rfl, rfl, h3⟩ | ⟨rfl, y, rfl, e3, h3, h4⟩
    · rw [kCp2_f, h3]
      exact compG_go hb xs ys k2
    · obtain ⟨zs, k3, rfl⟩ := omap k2
      rw [kCp2_t, h3, bindS, kCp3_q, h4, compG_go hb xs zs k3, mapS, kCp4_q]; rfl
theorem e_compG {own : List Nat} {G : GF} {test : CF} {it : IF} {elt : EF} {dd : α → D} {E : β → T} {fn : α → Option (Option β)} {xs : List α} {ys : List β} (hi : it env = some (xs.map dd, e)) (hw : wipeE e own = w) (h : compG fn xs = some ys)
    (hb : ∀ x o, fn x = some o → ∃ e1, G (.p (dd x)) w = some e1 ∧ ∃ b e2, test e1 = some (b, e2) ∧ ((b = false ∧ o = none ∧ wipeE e2 own = w) ∨ (b = true ∧ ∃ y, o = some y ∧ ∃ e3, elt e2 = some (E y, e3) ∧ wipeE e3 own = w))) :
    eComp own it G test elt env = some (oE E ys, w) := by
  unfold compG at h
  split at h
  · rename_i c
    rw [eComp_q, hi, bindS, kComp_q, if_pos (by rw [List.length_map]; exact c), hw, compG_go hb xs ys h]; rfl
  · cases h
theorem e_compGP {own : List Nat} {G : GF} {test : CF} {it : IF} {elt : EF} {dd : α → D} {E : β → D} {fn : α → Option (Option β)} {xs : List α} {ys : List β} (hi : it env = some (xs.map dd, e)) (hw : wipeE e own = w) (h : compG fn xs = some ys)
    (hb : ∀ x o, fn x = some o → ∃ e1, G (.p (dd x)) w = some e1 ∧ ∃ b e2, test e1 = some (b, e2) ∧ ((b = false ∧ o = none ∧ wipeE e2 own = w) ∨ (b = true ∧ ∃ y, o = some y ∧ ∃ e3, elt e2 = some (.p (E y), e3) ∧ wipeE e3 own = w))) :
    eComp own it G test elt env = some (oL E ys, w) := by
  rw [← oE_p]
  exact e_compG (E := pE E) hi hw h hb
def asN : D → Option Int
  | .int b => some b
  | _ => none
def asIntD (d : D) : Option Int := asN d
def splitN (a b : Nm) : Option (List Nm) := if (b.length == 0) = false ∧ a.length + 2 ≤ 16777216 then some ((Txt.split (sg a) (sg b)).map fun s => s.cps.toList) else none
end
section
variable {env e e1 e2 e' : Env} {f fi fk : EF} {t u : T} {i : Nat} {a y : Int} {α β : Type}
theorem w_appL2 {xs zs : List α} {dd : α → D} {x : α} (h0 : env[i]? = some (some (oL dd xs))) (h : f env = some (.p (dd x), e)) (h1 : e[i]? = some (some (oL dd xs))) (hp : push xs x = some zs) (he : e.set i (some (oL dd zs)) = e') : sApp i f env = some (.nx, e') := he ▸ w_appL h0 h h1 hp
theorem w_rev2 {xs : List α} {dd : α → D} (h : env[i]? = some (some (oL dd xs))) (he : env.set i (some (oL dd xs.reverse)) = e') : sRevP i (pNm i) env = some (.nx, e') := he ▸ w_rev h
theorem w_putD2 [DecidableEq β] {kk : β → Key} {dd : α → D} (hk : ∀ a b, kk a = kk b → a = b) {kv kv2 : List (β × α)} {k : β} {x : α} (h : f env = some (.p (dd x), e)) (h0 : e[i]? = some (some (oK kk dd kv))) (hj : fk e = some (u, e1)) (h3 : keyT u = some (kk k)) (h1 : e1[i]? = some (some (oK kk dd kv))) (hp : putK kv k x = some kv2) (he : e1.set i (some (oK kk dd kv2)) = e') : sPutD i fk f env = some (.nx, e') := he ▸ w_putD hk h h0 hj h3 h1 hp
end
end DL
namespace DL
open PySem PySem.Spec PyProof.Rows L2
section
variable {env e e1 e2 e3 e' : Env} {f fa fb fc fi fo fk fx : EF} {ra : AF} {po : PF} {P : List Stp} {G : GF} {F : SF} {t u v : T} {ts us : List T} {d x y z : D} {ds es : List D} {i j n : Nat} {a b m : Int} {α β κ : Type}
theorem cd_i : cleanD (.int a) = true := rfl
theorem cd_s {s : Str} : cleanD (.str s) = true := rfl
theorem cds_n : cleanDs [] = true := rfl
theorem cds_c (h : cleanD d = true) (h2 : cleanDs ds = true) : cleanDs (d :: ds) = true := by unfold cleanDs; rw [h, h2]; rfl
theorem cd_t (h : cleanDs ds = true) : cleanD (.tup ds) = true := h
theorem cd_q {dd : α → D} (h : ∀ x, cleanD (dd x) = true) : ∀ xs : List α, cleanD (eSq dd xs) = true := fun xs => cd_t (by
  induction xs with
  | nil => exact cds_n
  | cons x xs ih => exact cds_c (h x) ih)
theorem cv_p (h : cleanD d = true) : cleanV (.p d) = true := by unfold cleanV; exact h
theorem cvs_n : cleanVs [] = true := rfl
theorem cvs_c (h : cleanV t = true) (h2 : cleanVs ts = true) : cleanVs (t :: ts) = true := by unfold cleanVs; rw [h, h2]; rfl
theorem cv_l (h : cleanVs ts = true) : cleanV (.lst ts) = true := by unfold cleanV; exact h
theorem cv_t (h : cleanVs ts = true) : cleanV (.tup ts) = true := by unfold cleanV; exact h
theorem cv_o {dd : α → D} (h : ∀ x, cleanD (dd x) = true) : ∀ xs : List α, cleanV (oL dd xs) = true := fun xs => cv_l (by
  induction xs with
  | nil => exact cvs_n
  | cons x xs ih => exact cvs_c (cv_p (h x)) ih)
theorem pl_nm (h : env[i]? = some (some t)) : pNm i env = some ([], env) := by unfold pNm; rw [h]
end
end DL
namespace DL
open PySem PySem.Spec PyProof.Rows L2
section
variable {env e e1 e2 e3 e' : Env} {f fa fb fc fi fo fk fx fe : EF} {ra : AF} {po : PF} {P : List Stp} {G : GF} {F : SF} {t t1 t2 u v r : T} {ts us : List T} {d x y z : D} {ds es : List D} {i j n : Nat} {a b m : Int} {α β κ : Type} {nm fn : Str} {fs : List (Str × T)} {kvs : List (Key × T)} {ky : Key}
def asSN : D → Option Nm
  | .str s => some s.cps.toList
  | _ => none
theorem asS_eq {l : Nm} (h : asSN d = some l) : d = eS l := by
  cases d <;> cases h
  rfl
theorem e_asS {l : Nm} (h : f env = some (.p d, e)) (h2 : asSN d = some l) : f env = some (.p (eS l), e) := by rw [h, asS_eq h2]
def asSs : List D → Option (List Nm)
  | [] => some []
  | d :: ds => (asSN d).bind fun l => (asSs ds).map (l :: ·)
def asQS : D → Option (List Nm)
  | .tup ds => asSs ds
  | _ => none
def chkV (t : T) : Option Int := if cleanV t = true then some 0 else none
section
variable [DecidableEq β] {kk : β → List Key} {dd : α → D}
end
end
end DL
namespace DL
open PySem PySem.Spec PyProof.Rows L2
def Ok {α : Type} (o : Option α) (Q : α → Prop) : Prop := ∃ v, o = some v ∧ Q v
section
variable {α β σ ρ κ : Type} {o : Option α} {P Q : α → Prop}
theorem ok_some {v : α} (h : Q v) : Ok (some v) Q := ⟨v, rfl, h⟩
theorem ok_bind {k : α → Option β} {R : β → Prop} (h : Ok o Q) (g : ∀ v, Q v → Ok (k v) R) : Ok (o.bind k) R := by
  obtain ⟨v, rfl, q⟩ := h
  exact g v q
theorem ok_eq {k : α → Option β} {R : β → Prop} {v : α} (h : o = some v) (g : Ok (k v) R) : Ok (o.bind k) R := by subst h; exact g
theorem ok_imp (h : Ok o P) (g : ∀ v, P v → Q v) : Ok o Q := by
  obtain ⟨v, h1, h2⟩ := h
  exact ⟨v, h1, g v h2⟩
theorem ok_ite {b : Bool} {x y : Option α} (h1 : b = true → Ok x Q) (h2 : b = false → Ok y Q) : Ok (if b = true then x else y) Q := by
  cases b with
  | true => exact h1 rfl
  | false => exact h2 rfl
theorem ok_dite {p : Prop} [Decidable p] {x y : Option α} (h1 : p → Ok x Q) (h2 : ¬ p → Ok y Q) : Ok (if decide p = true then x else y) Q := by
  by_cases c : p
  · rw [if_pos (decide_eq_true c)]; exact h1 c
  · rw [if_neg (by simp [c])]; exact h2 c
theorem ok_of {o : Option α} {v : α} (h : o = some v) (q : Q v) : Ok o Q := ⟨v, h, q⟩
theorem ok_fold {f : α → σ → Option σ} (I : List α → σ → Prop) : ∀ (xs done : List α) (s : σ), I done s → (∀ pre x post s, done ++ xs = pre ++ x :: post → I pre s → Ok (f x s) (I (pre ++ [x]))) → Ok (fold f xs s) (I (done ++ xs))
  | [], done, s, h0, _ => by rw [List.append_nil]; exact ok_some h0
  | x :: xs, done, s, h0, hs => by
    refine ok_bind (hs done x xs s rfl h0) fun v hv => ?_
    have := ok_fold I xs (done ++ [x]) v hv (fun pre y post s e => hs pre y post s (by rw [← e, List.append_assoc]; rfl))
    rw [List.append_assoc] at this
    exact this
theorem ok_fold0 {f : α → σ → Option σ} (I : List α → σ → Prop) {xs : List α} {s : σ} (h0 : I [] s) (hs : ∀ pre x post s, xs = pre ++ x :: post → I pre s → Ok (f x s) (I (pre ++ [x]))) : Ok (fold f xs s) (I xs) := by
  have := ok_fold I xs [] s h0 hs
  exact this
theorem enumN_len : ∀ (k : Nat) (xs : List α), (enumN k xs).length = xs.length
  | _, [] => rfl
  | k, x :: xs => by rw [enumN, List.length_cons, List.length_cons, enumN_len (k + 1) xs]
theorem enumN_mem : ∀ {k : Nat} {xs : List α} {p : Int × α}, p ∈ enumN k xs → (k : Int) ≤ p.1 ∧ p.1 < (k : Int) + xs.length ∧ p.2 ∈ xs
  | _, [], p, h => by cases h
  | k, x :: xs, p, h => by
    rw [enumN] at h
    rcases List.mem_cons.mp h with rfl | h
    · exact ⟨Int.le_refl _, by rw [List.length_cons]; omega, by simp⟩
    · obtain ⟨h1, h2, h3⟩ := enumN_mem h
      refine ⟨by omega, ?_, by simp [h3]⟩
      rw [List.length_cons]; omega
theorem enumN_snd : ∀ (k : Nat) (xs : List α), (enumN k xs).map (·.2) = xs
  | _, [] => rfl
  | k, x :: xs => by rw [enumN, List.map_cons, enumN_snd (k + 1) xs]
theorem rngN_len (lo : Int) (n : Nat) : (rngN lo n).length = n := by simp [rngN]
theorem rngN_mem {lo : Int} {n : Nat} {i : Int} (h : i ∈ rngN lo n) : lo ≤ i ∧ i < lo + n := by
  unfold rngN at h
  obtain ⟨k, hk, rfl⟩ := List.mem_map.mp h
  have := List.mem_range.mp hk
  omega
theorem push_eq {xs : List α} {x : α} (h : xs.length < 16000000) : push xs x = some (xs ++ [x]) := if_pos h
theorem catL_eq {xs ys : List α} (h : xs.length + ys.length ≤ 16777216) : catL xs ys = some (xs ++ ys) := if_pos h
theorem extL_eq {xs ys : List α} (h : xs.length + ys.length < 16000000) : extL xs ys = some (xs ++ ys) := if_pos h
theorem compT_eq {f : α → β} {xs : List α} (h : xs.length ≤ 1000000) : compT f xs = some (xs.map f) := if_pos h
theorem compTF_eq {p : α → Bool} {f : α → β} {xs : List α} (h : xs.length ≤ 1000000) : compTF p f xs = some ((xs.filter p).map f) := if_pos h
theorem mapO_eq {f : α → Option β} {g : α → β} : ∀ {xs : List α}, (∀ x ∈ xs, f x = some (g x)) → mapO f xs = some (xs.map g)
  | [], _ => rfl
  | x :: xs, h => by
    show (f x).bind _ = _
    rw [h x (by simp)]
    show (mapO f xs).map _ = _
    rw [mapO_eq fun y hy => h y (by simp [hy])]; rfl
theorem compO_eq {f : α → Option β} {g : α → β} {xs : List α} (hl : xs.length ≤ 1000000) (h : ∀ x ∈ xs, f x = some (g x)) : compO f xs = some (xs.map g) := by unfold compO; rw [if_pos hl, mapO_eq h]
theorem mapG_eq {f : α → Option (Option β)} {p : α → Bool} {g : α → β} : ∀ {xs : List α}, (∀ x ∈ xs, f x = some (if p x = true then some (g x) else none)) → mapG f xs = some ((xs.filter p).map g)
  | [], _ => rfl
  | x :: xs, h => by
    show (f x).bind _ = _
    rw [h x (by simp)]
    have ih := mapG_eq fun y hy => h y (List.mem_cons_of_mem x hy)
    cases hp : p x with
    | true =>
      show (mapG f xs).map _ = _
      rw [ih, List.filter_cons_of_pos hp]; rfl
    | false =>
      show mapG f xs = _
      rw [ih, List.filter_cons_of_neg (by rw [hp]; simp)]
theorem compG_eq {f : α → Option (Option β)} {p : α → Bool} {g : α → β} {xs : List α} (hl : xs.length ≤ 1000000) (h : ∀ x ∈ xs, f x = some (if p x = true then some (g x) else none)) : compG f xs = some ((xs.filter p).map g) := by unfold compG; rw [if_pos hl, mapG_eq h]
theorem ok_mapO {f : α → Option β} {R : α → β → Prop} : ∀ {xs : List α}, (∀ x ∈ xs, Ok (f x) (R x)) → Ok (mapO f xs) fun ys => ys.length = xs.length ∧ ∀ y ∈ ys, ∃ x ∈ xs, R x y
  | [], _ => ok_some ⟨rfl, by simp⟩
  | x :: xs, h => by
    refine ok_bind (h x (by simp)) fun y hy => ?_
    obtain ⟨ys, h1, h2, h3⟩ := ok_mapO fun z hz => h z (List.mem_cons_of_mem x hz)
    rw [h1]
    refine ok_some ⟨by simp [h2], fun z hz => ?_⟩
    rcases List.mem_cons.mp hz with rfl | hz
    · exact ⟨x, by simp, hy⟩
    · obtain ⟨w, hw, r⟩ := h3 z hz
      exact ⟨w, by simp [hw], r⟩
theorem ok_compO {f : α → Option β} {R : α → β → Prop} {xs : List α} (hl : xs.length ≤ 1000000) (h : ∀ x ∈ xs, Ok (f x) (R x)) : Ok (compO f xs) fun ys => ys.length = xs.length ∧ ∀ y ∈ ys, ∃ x ∈ xs, R x y := by unfold compO; rw [if_pos hl]; exact ok_mapO h
theorem ok_atI {xs : List α} {i : Int} {R : α → Prop} (h0 : 0 ≤ i) (h1 : i < xs.length) (h : ∀ x ∈ xs, R x) : Ok (atI xs i) R := by
  obtain ⟨x, hx, e, _⟩ := atI_in h0 h1
  exact ⟨x, e, h x hx⟩
theorem rng1_eq {b : Int} (h0 : -4611686018427387904 ≤ b) (h1 : b < 4611686018427387904) : rng1 b = some (rngN 0 b.toNat) := if_pos ⟨h1, h0⟩
theorem mulN_l {a b : Int} (h : -18446744073709551616 < a ∧ a < 18446744073709551616) : mulN a b = some (a * b) := if_pos (by unfold mulOk; exact decide_eq_true (.inl h))
theorem mulN_r {a b : Int} (h : -18446744073709551616 < b ∧ b < 18446744073709551616) : mulN a b = some (a * b) := if_pos (by unfold mulOk; exact decide_eq_true (.inr (.inl h)))
theorem modN_eq {a b : Int} (h : 0 < b) : modN a b = some (a % b) := if_pos (by unfold modOk; exact decide_eq_true h)
theorem divN_eq {a b : Int} (h : 0 < b) (h1 : b < 1606938044258990275541962092341162602522202993782792835301376) : divN a b = some (a / b) := if_pos (by unfold divOk; exact decide_eq_true ⟨h, h1⟩)
theorem ok_mod {a b : Int} (h : 0 < b) : Ok (modN a b) fun x => 0 ≤ x ∧ x < b := ⟨_, modN_eq h, Int.emod_nonneg _ (by omega), Int.emod_lt_of_pos _ h⟩
theorem catS_eq {a b : Nm} (h : a.length + b.length ≤ 16777216) : catS a b = some (a ++ b) := if_pos h
theorem bits_small {x : Int} (h0 : 0 ≤ x) (h1 : x < 1606938044258990275541962092341162602522202993782792835301376) : Builtin.Int.intBits x ≤ 1048576 := by
  unfold Builtin.Int.intBits
  by_cases z : x = 0
  · subst z; decide
  · have hb : (x == 0) = false := by simpa using z
    rw [hb]
    have hn : x.natAbs ≠ 0 := by omega
    have : x.natAbs.log2 < 200 := (Nat.log2_lt hn).mpr (by
      have e : (2 : Nat) ^ 200 = 1606938044258990275541962092341162602522202993782792835301376 := by decide
      rw [e]; omega)
    show x.natAbs.log2 + 1 ≤ 1048576
    omega
theorem mulN_b {a b : Int} (h0 : 0 ≤ a) (h1 : a < 1606938044258990275541962092341162602522202993782792835301376) (h2 : 0 ≤ b) (h3 : b < 1606938044258990275541962092341162602522202993782792835301376) : mulN a b = some (a * b) := if_pos (by
  unfold mulOk
  have := bits_small h0 h1
  have := bits_small h2 h3
  exact decide_eq_true (.inr (.inr (by omega))))
variable [DecidableEq κ]
theorem lk_nil (k : κ) : lkN ([] : List (κ × α)) k = none := rfl
theorem lk_cons (j k : κ) (x : α) (r : List (κ × α)) : lkN ((j, x) :: r) k = if j = k then some x else lkN r k := by
  unfold lkN
  by_cases c : j = k
  · subst c; simp
  · simp [c]
theorem lk_app (k : κ) : ∀ (r q : List (κ × α)), lkN (r ++ q) k = (lkN r k).or (lkN q k)
  | [], q => by rw [lk_nil]; rfl
  | (j, x) :: r, q => by
    rw [List.cons_append, lk_cons, lk_cons, lk_app k r q]
    split <;> rfl
theorem lk_any (k : κ) : ∀ r : List (κ × α), (r.any fun p => decide (p.1 = k)) = (lkN r k).isSome
  | [] => rfl
  | (j, x) :: r => by
    rw [List.any_cons, lk_cons, lk_any k r]
    by_cases c : j = k <;> simp [c]
theorem lk_map (k j : κ) (x : α) : ∀ r : List (κ × α), lkN (r.map fun p => if p.1 = j then (p.1, x) else p) k = if k = j then (lkN r k).map (fun _ => x) else lkN r k
  | [] => by rw [List.map_nil, lk_nil]; split <;> rfl
  | (i, y) :: r => by
    rw [List.map_cons]
    by_cases c : i = j
    · subst c
      rw [if_pos rfl, lk_cons, lk_cons, lk_map k i x r]
      by_cases d : i = k
      · subst d; simp
      · have d2 : ¬ k = i := fun e => d e.symm
        simp [d, d2]
    · rw [if_neg c, lk_cons, lk_cons, lk_map k j x r]
      by_cases d : i = k
      · subst d; rw [if_pos rfl, if_pos rfl, if_neg c]
      · rw [if_neg d, if_neg d]
theorem lk_put (kv : List (κ × α)) (j k : κ) (x : α) : lkN (putN kv j x) k = if k = j then some x else lkN kv k := by
  unfold putN
  rw [lk_any]
  cases h : lkN kv j with
  | some y =>
    rw [Option.isSome_some, if_pos rfl, lk_map]
    by_cases c : k = j
    · subst c; rw [if_pos rfl, if_pos rfl, h]; rfl
    · rw [if_neg c, if_neg c]
  | none =>
    rw [Option.isSome_none, if_neg (by simp), lk_app, lk_cons, lk_nil]
    by_cases c : k = j
    · subst c; rw [h, if_pos rfl]; simp
    · rw [if_neg c, if_neg (fun e => c e.symm)]; cases lkN kv k <;> rfl
theorem lk_mem {k : κ} {x : α} : ∀ {r : List (κ × α)}, lkN r k = some x → (k, x) ∈ r
  | [], h => by cases h
  | (j, y) :: r, h => by
    rw [lk_cons] at h
    split at h
    · rename_i c; cases h; subst c; simp
    · exact List.mem_cons_of_mem _ (lk_mem h)
theorem lk_of {k : κ} {x : α} : ∀ {r : List (κ × α)}, (r.map (·.1)).Nodup → (k, x) ∈ r → lkN r k = some x
  | [], _, h => by cases h
  | (j, y) :: r, hn, h => by
    rw [List.map_cons, List.nodup_cons] at hn
    rw [lk_cons]
    rcases List.mem_cons.mp h with e | h
    · cases e; rw [if_pos rfl]
    · rw [if_neg, lk_of hn.2 h]
      rintro rfl
      exact hn.1 (List.mem_map.mpr ⟨_, h, rfl⟩)
theorem lkN_none {k : κ} : ∀ {r : List (κ × α)}, k ∉ r.map (·.1) → lkN r k = none
  | [], _ => rfl
  | (j, y) :: r, h => by
    rw [List.map_cons, List.mem_cons] at h
    rw [lk_cons, if_neg (fun e => h (.inl e.symm)), lkN_none fun e => h (.inr e)]
theorem lk_isSome {k : κ} {r : List (κ × α)} (h : k ∈ r.map (·.1)) : ∃ x, lkN r k = some x := by
  cases e : lkN r k with
  | some x => exact ⟨x, rfl⟩
  | none =>
    exfalso
    obtain ⟨⟨j, y⟩, hp, rfl⟩ := List.mem_map.mp h
    have := lk_any j r
    rw [e] at this
    have h2 : (r.any fun p => decide (p.1 = j)) = true := List.any_eq_true.mpr ⟨_, hp, by simp⟩
    rw [this] at h2; cases h2
end
end DL
set_option maxHeartbeats 4000000
namespace LQ
open PySem PySem.Spec PyProof.Rows L2 DL 
end LQ
set_option maxHeartbeats 1000000
namespace LQ
open PySem PySem.Spec PyProof.Rows L2 DL
mutual
def pOk : Nat → D → Bool
  | _, .int _ => true
  | _, .str _ => true
  | n + 1, .lst ds => decide (ds.length ≤ 1000000) && pOks n ds
  | n + 1, .tup ds => decide (ds.length ≤ 1000000) && pOks n ds
  | _, _ => false
def pOks : Nat → List D → Bool
  | _, [] => true
  | n, d :: ds => pOk n d && pOks n ds
end
theorem k1 : kitB "int" "list" = some false := by decide +kernel
theorem k2 : kitB "int" "tuple" = some false := by decide +kernel
theorem k3 : kitB "str" "list" = some false := by decide +kernel
theorem k4 : kitB "str" "tuple" = some false := by decide +kernel
theorem pOk_int {n : Nat} {i : Int} : pOk n (.int i) = true := by unfold pOk; rfl
end LQ
namespace DL
open PySem PySem.Spec PyProof.Rows L2
def Sok (w : Nm) : Prop := ∀ c ∈ w, c < 1114112
theorem dS {n : Nat} {w : Nm} (h : Sok w) : dOk n (eS w) = true := dOk_sg h
theorem dL {n : Nat} {α : Type} {e : α → D} {xs : List α} (h : ∀ x ∈ xs, dOk n (e x) = true) : dOk (n + 1) (eLs e xs) = true := dOk_lst fun d hd => by obtain ⟨x, hx, rfl⟩ := List.mem_map.mp hd; exact h x hx
theorem dQ {n : Nat} {α : Type} {e : α → D} {xs : List α} (h : ∀ x ∈ xs, dOk n (e x) = true) : dOk (n + 1) (eSq e xs) = true := dOk_tup fun d hd => by obtain ⟨x, hx, rfl⟩ := List.mem_map.mp hd; exact h x hx
theorem dT2 {n : Nat} {a b : D} (h1 : dOk n a = true) (h2 : dOk n b = true) : dOk (n + 1) (.tup [a, b]) = true := dOk_tup fun d hd => by
  simp only [List.mem_cons, List.not_mem_nil, or_false] at hd
  rcases hd with rfl | rfl <;> assumption
theorem dT3 {n : Nat} {a b c : D} (h1 : dOk n a = true) (h2 : dOk n b = true) (h3 : dOk n c = true) : dOk (n + 1) (.tup [a, b, c]) = true := dOk_tup fun d hd => by
  simp only [List.mem_cons, List.not_mem_nil, or_false] at hd
  rcases hd with rfl | rfl | rfl <;> assumption
theorem dT7 {n : Nat} {a b c d e f g : D} (h1 : dOk n a = true) (h2 : dOk n b = true) (h3 : dOk n c = true) (h4 : dOk n d = true) (h5 : dOk n e = true) (h6 : dOk n f = true) (h7 : dOk n g = true) : dOk (n + 1) (.tup [a, b, c, d, e, f, g]) = true := dOk_tup fun d hd => by
  simp only [List.mem_cons, List.not_mem_nil, or_false] at hd
  rcases hd with rfl | rfl | rfl | rfl | rfl | rfl | rfl <;> assumption
theorem sok_cod (s : String) : Sok (cod s) := cod_ok s
theorem dI {n : Nat} {i : Int} : dOk n (.int i) = true := dOk_int
open LQ (pOk)
theorem pI {n : Nat} {i : Int} : pOk n (.int i) = true := LQ.pOk_int
end DL
set_option maxHeartbeats 2000000
namespace FAN
open PySem PySem.Spec PyProof.Rows L2 DL
abbrev TSII : Type := Nm × Int × Int
abbrev eTSII : TSII → D := eT3 eS D.int D.int
abbrev TSI : Type := Nm × Int
abbrev eTSI : TSI → D := eT2 eS D.int
abbrev TSS : Type := Nm × Nm
abbrev eTSS : TSS → D := eT2 eS eS
abbrev R1 : Type := Nm × (List Nm)
abbrev eR1 : R1 → D := eT2 eS (eSq eS)
abbrev TSSI : Type := Nm × Nm × Int
abbrev eTSSI : TSSI → D := eT3 eS eS D.int
abbrev R2 : Type := Nm × (List TSI) × (List D)
abbrev eR2 : R2 → D := eT3 eS (eLs eTSI) (eLs eD)
abbrev R3 : Type := Nm × (List TSII) × (List TSI) × (List Nm) × (List R2) × (List D) × (List TSS)
abbrev eR3 : R3 → D := eT7 eS (eLs eTSII) (eLs eTSI) (eLs eS) (eLs eR2) (eLs eD) (eLs eTSS)
abbrev R4 : Type := (List TSI) × (List TSI) × (List TSI) × (List TSI) × Int
abbrev TIS : Type := Int × Nm
abbrev TISSII : Type := Int × Nm × Nm × Int × Int
abbrev TDDI : Type := D × D × Int
abbrev TII : Type := Int × Int
abbrev eTII : TII → D := eT2 D.int D.int
abbrev R10 : Type := (List TISSII) × R4 × (List TDDI)
def n_law_mixed (p_law_cell_here : Int) (p_law_k : Int) : Option Int :=
  (mulN p_law_k p_law_k).bind fun x1 =>
  (mulN ((((p_law_cell_here % (2147483647 : Int)) * (48271 : Int)) + (((x1 + ((3 : Int) * p_law_k)) + (7 : Int)) * (69621 : Int))) % (2147483647 : Int)) ((((p_law_cell_here % (2147483647 : Int)) * (48271 : Int)) + (((x1 + ((3 : Int) * p_law_k)) + (7 : Int)) * (69621 : Int))) % (2147483647 : Int))).bind fun x2 =>
  some (x2 % (2147483647 : Int))
def n_law_names (p_law_cell_here : Int) (p_law_many : Int) : Option (List Nm) :=
  (n_law_mixed p_law_cell_here (3 : Int)).bind fun x1 =>
  (ixS (cod "abcdefghijklmnpqrstuvwxyz") (x1 % (25 : Int))).bind fun x2 =>
  (if ((decide (((x1 / (25 : Int)) % (3 : Int)) = (0 : Int))) && (decide (p_law_many < (9 : Int)))) = true then
  ((rng1  p_law_many).bind fun x3 =>
  (compO (fun (x4 : Int) => (repN x2 (p_law_many - x4)).bind fun x5 =>
  some x5) x3).bind fun c6 =>
  some c6)
  else ((modN (x1 / (525 : Int)) ((2 : Int) + ((x1 / (75 : Int)) % (7 : Int)))).bind fun x7 =>
  (rng1  p_law_many).bind fun x8 =>
  (fold (fun (x10 : Int) (s9 : (List Nm)) =>
  (rng1  ((2 : Int) + ((x1 / (75 : Int)) % (7 : Int)))).bind fun x14 =>
  (compT (fun (x15 : Int) => x2) x14).bind fun c16 =>
  (ixS (cod "bcdfghjklmnpqrstvwxz") (((x1 / (4200 : Int)) + ((3 : Int) * x10)) % (20 : Int))).bind fun x17 =>
  (putI c16 x7 x17).bind fun x18 =>
  (ixS (cod "bcdfghjklmnpqrstvwxz") (((x1 / (84000 : Int)) + (x10 / (20 : Int))) % (20 : Int))).bind fun x19 =>
  (modN (x7 + (1 : Int)) ((2 : Int) + ((x1 / (75 : Int)) % (7 : Int)))).bind fun x20 =>
  (putI x18 x20 x19).bind fun x21 =>
  (joinN (cod "") x21).bind fun x22 =>
  (push s9 x22).bind fun x23 =>
  some x23) x8 ([] : List Nm)).bind fun s24 =>
  some s24))
def n_law_coins (p_law_cell_here : Int) (p_law_way : Int) (p_law_most : Int) : Option Int :=
  (if (decide ((p_law_way % (5 : Int)) = (0 : Int))) = true then
  (some (1 : Int))
  else ((if (decide ((p_law_way % (5 : Int)) = (1 : Int))) = true then
  (some p_law_most)
  else ((if (decide ((p_law_way % (5 : Int)) = (2 : Int))) = true then
  (some ((1 : Int) + (p_law_cell_here % (7 : Int))))
  else ((if (decide ((p_law_way % (5 : Int)) = (3 : Int))) = true then
  ((modN p_law_cell_here p_law_most).bind fun x1 =>
  some ((1 : Int) + x1))
  else ((modN p_law_cell_here p_law_most).bind fun x2 =>
  (mulN (x2 + (1 : Int)) (p_law_way + (48271 : Int))).bind fun x3 =>
  (modN (x3 * (99999999999999997 : Int)) p_law_most).bind fun x4 =>
  some ((1 : Int) + x4)))))))))
def n_law_claims (p_law_seed : Int) (p_law_names_here : List Nm) (p_law_m : Int) : Option (List TSII) :=
  (rng1  ((1 : Int) + (p_law_m % (6 : Int)))).bind fun x1 =>
  (fold (fun (x3 : Int) (s2 : (List TSII)) =>
  (n_law_mixed p_law_seed ((20 : Int) + x3)).bind fun x7 =>
  (atI [(30 : Int), (1000000000000 : Int)] ((x7 / (1009 : Int)) % (2 : Int))).bind fun x8 =>
  (n_law_coins (p_law_seed + x3) (x7 % (1009 : Int)) x8).bind fun x9 =>
  (atI p_law_names_here ((1 : Int) + x3)).bind fun x10 =>
  (atI [(9 : Int), (1000000000000 : Int)] ((p_law_m / (6 : Int)) % (2 : Int))).bind fun x11 =>
  (n_law_coins (p_law_seed + x3) ((x7 / (2018 : Int)) % (997 : Int)) x11).bind fun x12 =>
  (push s2 (x10, x9, x12)).bind fun x13 =>
  some x13) x1 ([] : List TSII)).bind fun s14 =>
  some s14
def n_law_guards (p_law_m : Int) (p_law_claims_here : List TSII) (p_law_pots : List TSI) : Option (List TSS) :=
  (eqQ (eLs eTSI p_law_pots) (eLs eTSI ([] : List TSI))).bind fun x1 =>
  ((if (!x1) = true then
  ((rng1  (minI (p_law_claims_here.length : Int) (p_law_m % (4 : Int)))).bind fun x2 =>
  (fold (fun (x4 : Int) (s3 : (List TSS)) =>
  (modN ((p_law_m / (4 : Int)) + x4) (p_law_claims_here.length : Int)).bind fun x7 =>
  (atI p_law_claims_here x7).bind fun x8 =>
  (mulN x4 x4).bind fun x9 =>
  (modN ((p_law_m / (24 : Int)) + x9) (p_law_pots.length : Int)).bind fun x10 =>
  (atI p_law_pots x10).bind fun x11 =>
  (push s3 (x11.1, x8.1)).bind fun x12 =>
  some x12) x2 ([] : List TSS)).bind fun s13 =>
  some s13)
  else (some ([] : List TSS))) : Option ((List TSS))).bind fun s14 =>
  some s14
def n_law_cell (p_law_script : List Int) (p_law_k : Int) : Option Int :=
  (if (decide (p_law_k < (p_law_script.length : Int))) = true then
  ((atI p_law_script p_law_k).bind fun x1 =>
  some x1)
  else (some (0 : Int)))
def n_law_rule (p_law_n : Int) (p_law_claims_here : List TSII) (p_law_pots : List TSI) (p_law_free : List Nm) (p_law_others : List Nm) (p_law_kinds : List Nm) : Option D :=
  (modN p_law_n (p_law_kinds.length : Int)).bind fun x1 =>
  (atI p_law_kinds x1).bind fun x2 =>
  (if ((decide (x2 = (cod "share"))) && (decide ((1 : Int) < (p_law_free.length : Int)))) = true then
  ((modN (p_law_n / (64 : Int)) ((p_law_free.length : Int) - (1 : Int))).bind fun x3 =>
  (rng1  ((2 : Int) + x3)).bind fun x4 =>
  (compO (fun (x5 : Int) => (modN ((p_law_n / (9 : Int)) + x5) (p_law_free.length : Int)).bind fun x6 =>
  (atI p_law_free x6).bind fun x7 =>
  some x7) x4).bind fun c8 =>
  some (eR1 ((cod "share"), c8)))
  else ((if (decide (x2 = (cod "repay"))) = true then ((eqQ (eLs eS p_law_free) (eLs eS ([] : List Nm))).bind fun x9 =>
  some (!x9)) else some false).bind fun x10 =>
  (if x10 = true then
  ((modN (p_law_n / (9 : Int)) (p_law_free.length : Int)).bind fun x11 =>
  (atI p_law_free x11).bind fun x12 =>
  some (eTSS ((cod "repay"), x12)))
  else ((if (decide (x2 = (cod "fill"))) = true then ((eqQ (eLs eTSI p_law_pots) (eLs eTSI ([] : List TSI))).bind fun x13 =>
  some (!x13)) else some false).bind fun x14 =>
  (if x14 = true then
  ((modN (p_law_n / (9 : Int)) (p_law_pots.length : Int)).bind fun x15 =>
  (atI p_law_pots x15).bind fun x16 =>
  some (eTSS ((cod "fill"), x16.1)))
  else ((if (decide (x2 = (cod "lend"))) = true then
  ((atI p_law_others ((p_law_n / (9 : Int)) % (2 : Int))).bind fun x17 =>
  (atI [(9 : Int), (1000000000000 : Int)] ((p_law_n / (27 : Int)) % (2 : Int))).bind fun x18 =>
  (n_law_coins p_law_n ((p_law_n / (18 : Int)) % (1009 : Int)) x18).bind fun x19 =>
  some (eTSSI ((cod "lend"), x17, x19)))
  else ((if (decide (x2 = (cod "back"))) = true then
  ((atI p_law_others ((p_law_n / (9 : Int)) % (2 : Int))).bind fun x20 =>
  some (eTSS ((cod "back"), x20)))
  else ((modN (p_law_n / (9 : Int)) (p_law_claims_here.length : Int)).bind fun x21 =>
  (atI p_law_claims_here x21).bind fun x22 =>
  some (eTSS ((cod "pay"), x22.1))))))))))))
def n_law_order (p_law_script : List Int) (p_law_seed : Int) (p_law_name : Nm) (p_law_at : Int) (p_law_claims_here : List TSII) (p_law_pots : List TSI) (p_law_free : List Nm) (p_law_others : List Nm) (p_law_kinds : List Nm) : Option R2 :=
  (n_law_mixed p_law_seed p_law_at).bind fun x1 =>
  (atI [(0 : Int), (0 : Int), (1 : Int), (2 : Int), (3 : Int), (6 : Int)] (x1 % (6 : Int))).bind fun x2 =>
  (rng1  (minI (p_law_claims_here.length : Int) x2)).bind fun x3 =>
  (fold (fun (x5 : Int) (s4 : (List TSI)) =>
  (n_law_mixed p_law_seed ((p_law_at + (40 : Int)) + x5)).bind fun x8 =>
  (atI [(2 : Int), (3 : Int), (10 : Int)] ((x1 / (6 : Int)) % (3 : Int))).bind fun x9 =>
  (modN x8 x9).bind fun x10 =>
  (modN ((x1 / (18 : Int)) + x5) (p_law_claims_here.length : Int)).bind fun x11 =>
  (atI p_law_claims_here x11).bind fun x12 =>
  (push s4 (x12.1, ((1 : Int) + x10))).bind fun x13 =>
  some x13) x3 ([] : List TSI)).bind fun s14 =>
  (eqQ (eLs eS p_law_kinds) (eLs eS ([] : List Nm))).bind fun x15 =>
  ((if (!x15) = true then
  ((atI [(2 : Int), (4 : Int), (8 : Int), ((1 : Int) + ((x1 / (108 : Int)) % (8 : Int)))] ((x1 / (864 : Int)) % (4 : Int))).bind fun x16 =>
  (rng1  x16).bind fun x17 =>
  (fold (fun (x19 : Int) (s18 : (List D)) =>
  (n_law_cell p_law_script (p_law_at + x19)).bind fun x22 =>
  (n_law_mixed (p_law_seed + x22) (p_law_at + x19)).bind fun x23 =>
  (n_law_rule x23 p_law_claims_here p_law_pots p_law_free p_law_others p_law_kinds).bind fun x24 =>
  (push s18 x24).bind fun x25 =>
  some x25) x17 ([] : List D)).bind fun s26 =>
  some s26)
  else (some ([] : List D))) : Option ((List D))).bind fun s27 =>
  (modN (x1 / (3456 : Int)) (p_law_claims_here.length : Int)).bind fun x30 =>
  (atI p_law_claims_here x30).bind fun x31 =>
  (push s27 (eTSS ((cod "rest"), x31.1))).bind fun x32 =>
  some (p_law_name, s14, x32)
def n_law_pool (p_law_script : List Int) (p_law_seed : Int) (p_law_kinds : List Nm) : Option R3 :=
  (n_law_names p_law_seed (12 : Int)).bind fun x1 =>
  (n_law_mixed p_law_seed (1 : Int)).bind fun x2 =>
  (n_law_claims p_law_seed x1 x2).bind fun x3 =>
  (rng1  ((x2 / (72 : Int)) % (4 : Int))).bind fun x4 =>
  (fold (fun (x6 : Int) (s5 : (List TSI)) =>
  (divN x2 ((36 : Int) + x6)).bind fun x9 =>
  (atI [(9 : Int), (1000000000000 : Int)] ((x2 / (12 : Int)) % (2 : Int))).bind fun x10 =>
  (n_law_coins (p_law_seed + x6) (x9 % (1009 : Int)) x10).bind fun x11 =>
  (atI x1 ((7 : Int) + x6)).bind fun x12 =>
  (push s5 (x12, x11)).bind fun x13 =>
  some x13) x4 ([] : List TSI)).bind fun s14 =>
  (n_law_guards (x2 / (288 : Int)) x3 s14).bind fun x15 =>
  (compT (fun (x16 : TSS) => x16.2) x15).bind fun c17 =>
  (compTF (fun (x18 : TSII) => (!decide (x18.1 ∈ c17))) (fun (x18 : TSII) => x18.1) x3).bind fun c19 =>
  (n_law_names (p_law_seed + (1 : Int)) (2 : Int)).bind fun x20 =>
  (rng1  (2 : Int)).bind fun x21 =>
  (fold (fun (x23 : Int) (s22 : (List R2)) =>
  (atI x20 x23).bind fun x25 =>
  (n_law_order p_law_script p_law_seed x25 ((3 : Int) + ((9 : Int) * x23)) x3 s14 c19 (cutA x1 (some (10 : Int)) none) p_law_kinds).bind fun x26 =>
  (chkV (.tup [(.p (eS x26.1)), (oL eTSI x26.2.1), (oL eD x26.2.2)])).bind fun x27 =>
  (push s22 x26).bind fun x28 =>
  some x28) x21 ([] : List R2)).bind fun s29 =>
  (compT (fun (x30 : TSII) => x30.1) (cutA x3 none (some ((x2 / (7 : Int)) % (7 : Int))))).bind fun c31 =>
  (atI x1 (0 : Int)).bind fun x32 =>
  some (x32, x3, s14, c31, s29, ([] : List D), x15)
def n_Till_drawn (p_self_cash : Int) (p_need : Int) : Option (Int × Int) :=
  some ((minI p_need p_self_cash), (p_self_cash - (minI p_need p_self_cash)))
def n_fall_loan (p_till_owner : Nm) (p_till_cash : Int) (p_till_loans : List (TSS × Int)) (p_till_entries : List TISSII) (p_till_moves : List TDDI) (p_place : Int) (p_rule : D) : Option (Int × (List (TSS × Int)) × (List TISSII) × (List TDDI)) :=
  (ixD p_rule (0 : Int)).bind fun x1 =>
  (eqQ x1 (eS (cod "lend"))).bind fun x2 =>
  ((if x2 = true then
  ((ixD p_rule (1 : Int)).bind fun x3 =>
  (asSN x3).bind fun x4 =>
  (ixD p_rule (2 : Int)).bind fun x5 =>
  (asIntD x5).bind fun x6 =>
  (n_Till_drawn p_till_cash (maxI (0 : Int) (x6 - ((lkN p_till_loans (p_till_owner, x4)).getD (0 : Int))))).bind fun x7 =>
  (putK p_till_loans (p_till_owner, x4) (((lkN p_till_loans (p_till_owner, x4)).getD (0 : Int)) + x7.1)).bind fun x8 =>
  some (x7.2, x8, (maxI (0 : Int) (x6 - ((lkN p_till_loans (p_till_owner, x4)).getD (0 : Int)))), x7.1))
  else ((ixD p_rule (1 : Int)).bind fun x9 =>
  (asSN x9).bind fun x10 =>
  (n_Till_drawn p_till_cash ((lkN p_till_loans (x10, p_till_owner)).getD (0 : Int))).bind fun x11 =>
  (putK p_till_loans (x10, p_till_owner) (((lkN p_till_loans (x10, p_till_owner)).getD (0 : Int)) - x11.1)).bind fun x12 =>
  some (x11.2, x12, ((lkN p_till_loans (x10, p_till_owner)).getD (0 : Int)), x11.1))) : Option (Int × (List (TSS × Int)) × Int × Int)).bind fun s13 =>
  (ixD p_rule (0 : Int)).bind fun x15 =>
  (ixD p_rule (1 : Int)).bind fun x16 =>
  (asSN x15).bind fun x17 =>
  (asSN x16).bind fun x18 =>
  (push p_till_entries (p_place, x17, x18, s13.2.2.1, s13.2.2.2)).bind fun x19 =>
  (if (decide ((0 : Int) < s13.2.2.2)) = true then
  ((ixD p_rule (0 : Int)).bind fun x20 =>
  (ixD p_rule (1 : Int)).bind fun x21 =>
  (push p_till_moves (x20, x21, s13.2.2.2)).bind fun x22 =>
  some (s13.1, s13.2.1, x19, x22))
  else (some (s13.1, s13.2.1, x19, p_till_moves)))
end FAN
namespace DK
open PySem PySem.Spec PyProof.Rows L2 DL
abbrev TSS : Type := Nm × Nm
abbrev eTSS : TSS → D := eT2 eS eS
abbrev R1 : Type := Nm × (List Nm)
abbrev eR1 : R1 → D := eT2 eS (eSq eS)
abbrev TSSI : Type := Nm × Nm × Int
abbrev eTSSI : TSSI → D := eT3 eS eS D.int
abbrev TSI : Type := Nm × Int
abbrev eTSI : TSI → D := eT2 eS D.int
abbrev R2 : Type := Nm × (List TSI) × (List D)
abbrev eR2 : R2 → D := eT3 eS (eLs eTSI) (eLs eD)
abbrev TIS : Type := Int × Nm
abbrev TSII : Type := Nm × Int × Int
abbrev eTSII : TSII → D := eT3 eS D.int D.int
abbrev TSIS : Type := Nm × Int × Nm
abbrev eTSIS : TSIS → D := eT3 eS D.int eS
abbrev R3 : Type := Nm × (List TSII) × (List TSI) × (List Nm) × (List R2) × (List TSIS) × (List TSS)
abbrev eR3 : R3 → D := eT7 eS (eLs eTSII) (eLs eTSI) (eLs eS) (eLs eR2) (eLs eTSIS) (eLs eTSS)
def n_law_draw (p_law_script : List Int) (p_law_k : Int) (p_law_many : Int) : Option Int :=
  ((if (decide ((0 : Int) < (p_law_script.length : Int))) = true then
  ((modN p_law_k (p_law_script.length : Int)).bind fun x1 =>
  (atI p_law_script x1).bind fun x2 =>
  some x2)
  else (some (0 : Int))) : Option Int).bind fun s3 =>
  (mulN ((1103 : Int) * p_law_k) p_law_k).bind fun x4 =>
  (mulN (((s3 % (2147483647 : Int)) + ((7 : Int) * p_law_k)) + (3 : Int)) ((48271 : Int) + x4)).bind fun x5 =>
  (modN ((x5 % (2147483629 : Int)) / (64 : Int)) p_law_many).bind fun x6 =>
  some x6
def n_law_names (p_law_script : List Int) : Option (List Nm) :=
  (n_law_draw p_law_script (901 : Int) (2 : Int)).bind fun x1 =>
  (repN (cod "zq") x1).bind fun x2 =>
  (n_law_draw p_law_script (902 : Int) (4 : Int)).bind fun x3 =>
  (cutN (cod "vzb") none (some x3)).bind fun x4 =>
  (n_law_draw p_law_script (903 : Int) (16 : Int)).bind fun x5 =>
  (rng1  (16 : Int)).bind fun x6 =>
  (compO (fun (x7 : Int) => (ixS (cod "bcdfgjkmnpqvwxyz") ((x5 + x7) % (16 : Int))).bind fun x8 =>
  (catS x2 x8).bind fun x9 =>
  (catS x9 x4).bind fun x10 =>
  some x10) x6).bind fun c11 =>
  some c11
def n_law_coins (p_law_script : List Int) (p_law_k : Int) : Option Int :=
  ((if (decide ((0 : Int) < (p_law_script.length : Int))) = true then
  ((modN p_law_k (p_law_script.length : Int)).bind fun x1 =>
  (atI p_law_script x1).bind fun x2 =>
  some x2)
  else (some (0 : Int))) : Option Int).bind fun s3 =>
  (n_law_draw p_law_script (900 : Int) (3 : Int)).bind fun x4 =>
  (if (decide ((0 : Int) < x4)) = true then
  ((n_law_draw p_law_script p_law_k (9 : Int)).bind fun x5 =>
  some ((1 : Int) + x5))
  else ((mulN p_law_k p_law_k).bind fun x6 =>
  (mulN (((s3 % (10000000000000000000000000000000000000000 : Int)) + x6) + (1 : Int)) (262078551400494415750351 : Int)).bind fun x7 =>
  some ((1 : Int) + (x7 % (1000000000000 : Int)))))
def n_law_rule (p_law_script : List Int) (p_law_k : Int) (p_law_claims : List Nm) (p_law_pots : List Nm) (p_law_others : List Nm) : Option D :=
  (n_law_draw p_law_script p_law_k (9 : Int)).bind fun x1 =>
  (n_law_draw p_law_script (p_law_k + (1 : Int)) (p_law_claims.length : Int)).bind fun x2 =>
  (atI p_law_claims x2).bind fun x3 =>
  (if (decide (x1 < (3 : Int))) = true then
  (some (eTSS ((cod "pay"), x3)))
  else ((if (decide (x1 = (3 : Int))) = true then ((if (decide ((1 : Int) < (p_law_claims.length : Int))) = true then ((n_law_draw p_law_script (p_law_k + (2 : Int)) (2 : Int)).bind fun x4 =>
  some (decide (x4 = (0 : Int)))) else some false).bind fun x5 =>
  some x5) else some false).bind fun x6 =>
  (if x6 = true then
  (some (eR1 ((cod "share"), (cutA p_law_claims none (some (2 : Int))))))
  else ((if ((decide (x1 = (3 : Int))) && (decide ((1 : Int) < (p_law_claims.length : Int)))) = true then
  ((catL (cutA p_law_claims (some (-(1 : Int))) none) (cutA p_law_claims none (some (-(1 : Int))))).bind fun x7 =>
  some (eR1 ((cod "share"), x7)))
  else ((if (decide (x1 = (4 : Int))) = true then
  (some (eTSS ((cod "repay"), x3)))
  else ((if ((decide (x1 = (5 : Int))) && (decide ((0 : Int) < (p_law_pots.length : Int)))) = true then
  ((n_law_draw p_law_script (p_law_k + (2 : Int)) (p_law_pots.length : Int)).bind fun x8 =>
  (atI p_law_pots x8).bind fun x9 =>
  some (eTSS ((cod "fill"), x9)))
  else ((if ((decide ((5 : Int) < x1)) && (decide ((0 : Int) < (p_law_others.length : Int)))) = true then
  ((n_law_draw p_law_script (p_law_k + (2 : Int)) (p_law_others.length : Int)).bind fun x10 =>
  (atI p_law_others x10).bind fun x11 =>
  (if (decide (x1 = (8 : Int))) = true then
  (some (eTSS ((cod "back"), x11)))
  else ((n_law_coins p_law_script (p_law_k + (3 : Int))).bind fun x12 =>
  some (eTSSI ((cod "lend"), x11, x12)))))
  else (some (eTSS ((cod "pay"), x3))))))))))))))
def n_law_order (p_law_script : List Int) (p_law_k : Int) (p_law_name : Nm) (p_law_claims : List Nm) (p_law_pots : List Nm) (p_law_others : List Nm) : Option R2 :=
  (fold (fun (x2 : TIS) (s1 : (List TSI)) =>
  (n_law_draw p_law_script (p_law_k + x2.1) (4 : Int)).bind fun x5 =>
  (if (decide (x5 = (0 : Int))) = true then
  ((n_law_draw p_law_script ((p_law_k + (5 : Int)) + x2.1) (10 : Int)).bind fun x6 =>
  (push s1 (x2.2, ((1 : Int) + x6))).bind fun x7 =>
  some x7)
  else (some s1))) (enumN 0 p_law_claims) ([] : List TSI)).bind fun s8 =>
  (n_law_draw p_law_script (p_law_k + (8 : Int)) (6 : Int)).bind fun x9 =>
  (rng1  x9).bind fun x10 =>
  (fold (fun (x12 : Int) (s11 : (List D)) =>
  (n_law_rule p_law_script ((p_law_k + (10 : Int)) + ((5 : Int) * x12)) p_law_claims p_law_pots p_law_others).bind fun x14 =>
  (push s11 x14).bind fun x15 =>
  some x15) x10 ([] : List D)).bind fun s16 =>
  (n_law_draw p_law_script (p_law_k + (9 : Int)) (p_law_claims.length : Int)).bind fun x17 =>
  (atI p_law_claims x17).bind fun x18 =>
  (catL s16 [eTSS ((cod "rest"), x18)]).bind fun x19 =>
  some (p_law_name, s8, x19)
def n_law_free (p_law_orders : List R2) (p_law_claims : List Nm) : Option (List Nm) :=
  (fold (fun (x2 : R2) (s1 : (List D)) =>
  (fold (fun (x8 : D) (s7 : (List D)) =>
  (ixD x8 (0 : Int)).bind fun x10 =>
  (eqQ (eD x10) (eS (cod "share"))).bind fun x11 =>
  ((if x11 = true then
  ((ixD x8 (1 : Int)).bind fun x12 =>
  (itemsT (.p x12)).bind fun x13 =>
  (catL s7 x13).bind fun x14 =>
  some x14)
  else (some s7)) : Option ((List D))).bind fun s15 =>
  (ixD x8 (0 : Int)).bind fun x16 =>
  (eqQ (eD x16) (eS (cod "repay"))).bind fun x17 =>
  (if x17 = true then
  ((ixD x8 (1 : Int)).bind fun x18 =>
  (push s15 x18).bind fun x19 =>
  some x19)
  else (some s15))) x2.2.2 s1).bind fun s20 =>
  some s20) p_law_orders ([] : List D)).bind fun s21 =>
  (compG (fun (x22 : Nm) =>
  (inQ (eS x22) ((eLs eD) s21)).bind fun x23 =>
  (if (!x23) = true then (some (some x22)) else some none)) p_law_claims).bind fun c24 =>
  some c24
def n_law_some (p_law_script : List Int) (p_law_k : Int) (p_law_names_here : List Nm) : Option (List Nm) :=
  (fold (fun (x2 : TIS) (s1 : (List Nm)) =>
  (n_law_draw p_law_script (p_law_k + x2.1) (3 : Int)).bind fun x5 =>
  (if (decide ((0 : Int) < x5)) = true then
  ((push s1 x2.2).bind fun x6 =>
  some x6)
  else (some s1))) (enumN 0 p_law_names_here) ([] : List Nm)).bind fun s7 =>
  (n_law_draw p_law_script (p_law_k + (9 : Int)) (2 : Int)).bind fun x8 =>
  ((if (decide (x8 = (1 : Int))) = true then
  (some s7.reverse)
  else (some s7)) : Option ((List Nm))).bind fun s9 =>
  some s9
def n_law_pool (p_law_script : List Int) (p_law_k : Int) (p_law_name : Nm) (p_law_claims : List Nm) (p_law_pots : List Nm) (p_law_others : List Nm) : Option R3 :=
  (fold (fun (x2 : TIS) (s1 : (List TSII)) =>
  (n_law_coins p_law_script ((p_law_k + (20 : Int)) + x2.1)).bind fun x5 =>
  (n_law_coins p_law_script ((p_law_k + (24 : Int)) + x2.1)).bind fun x6 =>
  (push s1 (x2.2, x5, x6)).bind fun x7 =>
  some x7) (enumN 0 p_law_claims) ([] : List TSII)).bind fun s8 =>
  (n_law_draw p_law_script (p_law_k + (1 : Int)) (3 : Int)).bind fun x9 =>
  (fold (fun (x11 : TIS) (s10 : (List R2)) =>
  (n_law_order p_law_script ((p_law_k + ((60 : Int) * x11.1)) + (30 : Int)) x11.2 p_law_claims p_law_pots p_law_others).bind fun x14 =>
  (push s10 x14).bind fun x15 =>
  some x15) (enumN 0 (cutA [(cod "bb"), (cod "ck"), (cod "dd")] none (some ((1 : Int) + x9)))) ([] : List R2)).bind fun s16 =>
  (n_law_draw p_law_script (p_law_k + (2 : Int)) (3 : Int)).bind fun x17 =>
  (rng1  x17).bind fun x18 =>
  (fold (fun (x20 : Int) (s19 : (List TSIS)) =>
  (n_law_draw p_law_script ((p_law_k + (3 : Int)) + x20) (p_law_claims.length : Int)).bind fun x24 =>
  (atI p_law_claims x24).bind fun x25 =>
  (n_law_draw p_law_script ((p_law_k + (5 : Int)) + x20) ((cutA [(cod "bb"), (cod "ck"), (cod "dd")] none (some ((1 : Int) + x9))).length : Int)).bind fun x26 =>
  (atI (cutA [(cod "bb"), (cod "ck"), (cod "dd")] none (some ((1 : Int) + x9))) x26).bind fun x27 =>
  (n_law_draw p_law_script ((p_law_k + (7 : Int)) + x20) (3 : Int)).bind fun x28 =>
  (push s19 (x25, ((1 : Int) + x28), x27)).bind fun x29 =>
  some x29) x18 ([] : List TSIS)).bind fun s30 =>
  (n_law_free s16 p_law_claims).bind fun x31 =>
  (n_law_draw p_law_script (p_law_k + (10 : Int)) (4 : Int)).bind fun x32 =>
  (fold (fun (x34 : TIS) (s33 : (List TSS)) =>
  (if (decide ((0 : Int) < (p_law_pots.length : Int))) = true then
  ((n_law_draw p_law_script ((p_law_k + (11 : Int)) + x34.1) (p_law_pots.length : Int)).bind fun x37 =>
  (atI p_law_pots x37).bind fun x38 =>
  (push s33 (x38, x34.2)).bind fun x39 =>
  some x39)
  else (some s33))) (enumN 0 (cutA x31 none (some x32))) ([] : List TSS)).bind fun s40 =>
  (compO (fun (x41 : TIS) => (n_law_coins p_law_script ((p_law_k + (16 : Int)) + x41.1)).bind fun x42 =>
  some (x41.2, x42)) (enumN 0 p_law_pots)).bind fun c43 =>
  (n_law_some p_law_script (p_law_k + (13 : Int)) p_law_claims).bind fun x44 =>
  some (p_law_name, s8, c43, x44, s16, s30, s40)
def n_law_deal (p_law_script : List Int) (p_law_most : Int) : Option (List R3) :=
  (n_law_names p_law_script).bind fun x1 =>
  (n_law_draw p_law_script (904 : Int) p_law_most).bind fun x2 =>
  (rng1  ((1 : Int) + x2)).bind fun x3 =>
  (fold (fun (x5 : Int) (s4 : (List R3)) =>
  (n_law_draw p_law_script ((905 : Int) + x5) (3 : Int)).bind fun x12 =>
  (atI (cutA x1 (some ((3 : Int) + ((4 : Int) * x5))) (some ((7 : Int) + ((4 : Int) * x5)))) (3 : Int)).bind fun x13 =>
  (atI (cutA x1 (some ((3 : Int) + ((4 : Int) * x5))) (some ((7 : Int) + ((4 : Int) * x5)))) (3 : Int)).bind fun x14 =>
  (catS x14 (cod "h")).bind fun x15 =>
  (n_law_draw p_law_script ((910 : Int) + x5) (3 : Int)).bind fun x16 =>
  (compG (fun (x17 : Nm) =>
  (atI x1 x5).bind fun x18 =>
  (if (!decide (x17 = x18)) = true then (some (some x17)) else some none)) (cutA x1 none (some ((1 : Int) + x2)))).bind fun c19 =>
  (atI x1 x5).bind fun x20 =>
  (n_law_pool p_law_script ((200 : Int) * x5) x20 (cutA (cutA x1 (some ((3 : Int) + ((4 : Int) * x5))) (some ((7 : Int) + ((4 : Int) * x5)))) none (some ((1 : Int) + x12))) (cutA [x13, x15] none (some x16)) c19).bind fun x21 =>
  (push s4 x21).bind fun x22 =>
  some x22) x3 ([] : List R3)).bind fun s23 =>
  some s23
end DK
set_option maxHeartbeats 1000000
namespace DK
open PySem PySem.Spec PyProof.Rows L2 DL
theorem draw_ok (ns : List Int) (k m : Int) (hk : 0 ≤ k ∧ k ≤ 100000) (hm : 1 ≤ m) : Ok (n_law_draw ns k m) fun x => 0 ≤ x ∧ x < m := by
  unfold n_law_draw
  refine ok_bind (Q := fun _ => True) ?_ fun s _ => ?_
  · refine ok_dite (fun h => ?_) (fun h => ok_some trivial)
    refine ok_bind (ok_mod h) fun x hx => ?_
    exact ok_bind (ok_atI (R := fun _ => True) hx.1 hx.2 fun _ _ => trivial) fun _ _ => ok_some trivial
  · refine ok_eq (mulN_r (by omega)) ?_
    have h1 : 0 ≤ 1103 * k * k := Int.mul_nonneg (by omega) hk.1
    have h2 : 1103 * k * k ≤ 110300000 * 100000 := Int.mul_le_mul (by omega) hk.2 hk.1 (by omega)
    refine ok_eq (mulN_r (by omega)) ?_
    exact ok_bind (ok_mod (by omega)) fun x hx => ok_some hx
theorem coins_ok (ns : List Int) (k : Int) (hk : 0 ≤ k ∧ k ≤ 100000) : Ok (n_law_coins ns k) fun x => 1 ≤ x ∧ x ≤ 1000000000000 := by
  unfold n_law_coins
  refine ok_bind (Q := fun _ => True) ?_ fun s _ => ?_
  · refine ok_dite (fun h => ?_) (fun h => ok_some trivial)
    refine ok_bind (ok_mod h) fun x hx => ?_
    exact ok_bind (ok_atI (R := fun _ => True) hx.1 hx.2 fun _ _ => trivial) fun _ _ => ok_some trivial
  · refine ok_bind (draw_ok ns 900 3 (by omega) (by omega)) fun x hx => ?_
    refine ok_dite (fun h => ?_) (fun h => ?_)
    · exact ok_bind (draw_ok ns k 9 hk (by omega)) fun y hy => ok_some (by omega)
    · have h1 : 0 ≤ k * k := Int.mul_nonneg hk.1 hk.1
      have h2 : k * k ≤ 100000 * 100000 := Int.mul_le_mul hk.2 hk.2 hk.1 (by omega)
      refine ok_eq (mulN_r (by omega)) ?_
      refine ok_eq (mulN_b (by omega) (by omega) (by omega) (by omega)) ?_
      refine ok_some ?_
      generalize (s % 10000000000000000000000000000000000000000 + k * k + 1) * 262078551400494415750351 = z
      omega
def lets : List Nat := cod "bcdfgjkmnpqvwxyz"
theorem lets_len : lets.length = 16 := by decide
def nameK (A B : Nm) (f : Int) (k : Int) : Nm := A ++ [lets.getD ((f + k) % 16).toNat 0] ++ B
def namesK (A B : Nm) (f : Int) : List Nm := (List.range 16).map fun (k : Nat) => nameK A B f (k : Int)
theorem lets_inj : ∀ i < 16, ∀ j < 16, lets.getD i 0 = lets.getD j 0 → i = j := by decide +kernel
theorem nameK_inj {A B : Nm} {f i j : Int} (h0 : 0 ≤ i) (h1 : i < 16) (h2 : 0 ≤ j) (h3 : j < 16) (h : nameK A B f i = nameK A B f j) : i = j := by
  unfold nameK at h
  have h := List.append_cancel_right h
  have h := List.append_cancel_left h
  have h : lets.getD ((f + i) % 16).toNat 0 = lets.getD ((f + j) % 16).toNat 0 := by simpa using h
  have := lets_inj _ (by omega) _ (by omega) h
  omega
theorem namesK_nodup (A B : Nm) (f : Int) : (namesK A B f).Nodup := by
  unfold namesK
  rw [List.Nodup, List.pairwise_map]
  refine List.Pairwise.imp_of_mem (fun {a b} ha hb hne e => ?_) (List.nodup_range (n := 16))
  have h1 := List.mem_range.mp ha
  have h2 := List.mem_range.mp hb
  have := nameK_inj (by omega) (by omega) (by omega) (by omega) e
  omega
theorem namesK_len (A B : Nm) (f : Int) : (namesK A B f).length = 16 := by simp [namesK]
theorem lets_low : ∀ c ∈ lets, 97 ≤ c ∧ c ≤ 122 := by decide +kernel
def Low (n : Nm) : Prop := 1 ≤ n.length ∧ n.length ≤ 7 ∧ ∀ c ∈ n, 97 ≤ c ∧ c ≤ 122
theorem names_ok (ns : List Int) : ∃ (A B : Nm) (f : Int), A.length ≤ 2 ∧ B.length ≤ 3 ∧ (∀ c ∈ A ++ B, 97 ≤ c ∧ c ≤ 122) ∧ n_law_names ns = some (namesK A B f) := by
  obtain ⟨d1, h1, a0, a1⟩ := draw_ok ns 901 2 (by omega) (by omega)
  obtain ⟨d2, h2, b0, b1⟩ := draw_ok ns 902 4 (by omega) (by omega)
  obtain ⟨f, h3, f0, f1⟩ := draw_ok ns 903 16 (by omega) (by omega)
  obtain ⟨A, hA, lA, cA⟩ : ∃ A : Nm, repN (cod "zq") d1 = some A ∧ A.length ≤ 2 ∧ ∀ c ∈ A, 97 ≤ c ∧ c ≤ 122 := by
    have : d1 = 0 ∨ d1 = 1 := by omega
    rcases this with rfl | rfl
    · exact ⟨[], by decide, by decide, by decide⟩
    · exact ⟨cod "zq", by decide, by decide, by decide⟩
  obtain ⟨B, hB, lB, cB⟩ : ∃ B : Nm, cutN (cod "vzb") none (some d2) = some B ∧ B.length ≤ 3 ∧ ∀ c ∈ B, 97 ≤ c ∧ c ≤ 122 := by
    have : d2 = 0 ∨ d2 = 1 ∨ d2 = 2 ∨ d2 = 3 := by omega
    rcases this with rfl | rfl | rfl | rfl
    · exact ⟨[], by decide, by decide, by decide⟩
    · exact ⟨cod "v", by decide, by decide, by decide⟩
    · exact ⟨cod "vz", by decide, by decide, by decide⟩
    · exact ⟨cod "vzb", by decide, by decide, by decide⟩
  refine ⟨A, B, f, lA, lB, fun c hc => (List.mem_append.mp hc).elim (cA c) (cB c), ?_⟩
  unfold n_law_names
  rw [h1, bindS, hA, bindS, h2, bindS, hB, bindS, h3, bindS, rng1_eq (by omega) (by omega), bindS]
  rw [compO_eq (g := fun i => nameK A B f i) (by rw [rngN_len]; decide) (fun i hi => ?_)]
  · show some ((rngN 0 16).map _) = some ((List.range 16).map _)
    unfold rngN
    rw [List.map_map]
    refine congrArg some (List.map_congr_left fun k _ => ?_)
    show nameK A B f (0 + (k : Int)) = _
    rw [Int.zero_add]
  · have hi := rngN_mem hi
    have hi : 0 ≤ (f + i) % 16 := by omega
    have hi2 : (f + i) % 16 < (lets.length : Int) := by rw [lets_len]; omega
    obtain ⟨c, _, hc, hc2⟩ := atI_in hi hi2
    have e1 : ixS (cod "bcdfgjkmnpqvwxyz") ((f + i) % 16) = some [lets.getD ((f + i) % 16).toNat 0] := by
      show (if lets.length ≤ 16777216 then (atI lets _).map _ else none) = _
      rw [if_pos (by decide), hc, List.getD_eq_getElem?_getD, hc2]; rfl
    rw [e1, bindS, catS_eq (by simp; omega), bindS, catS_eq (by simp; omega), bindS]; rfl
theorem nameK_low {A B : Nm} {f k : Int} (lA : A.length ≤ 2) (lB : B.length ≤ 3) (h : ∀ c ∈ A ++ B, 97 ≤ c ∧ c ≤ 122) : Low (nameK A B f k) := by
  refine ⟨by simp [nameK]; omega, by simp [nameK]; omega, fun c hc => ?_⟩
  unfold nameK at hc
  rcases List.mem_append.mp hc with hc | hc
  · rcases List.mem_append.mp hc with hc | hc
    · exact h c (by simp [hc])
    · rw [List.mem_singleton.mp hc]
      have hi : ((f + k) % 16).toNat < lets.length := by rw [lets_len]; omega
      rw [List.getD_eq_getElem?_getD, List.getElem?_eq_getElem hi]
      exact lets_low _ (List.getElem_mem hi)
  · exact h c (by simp [hc])
theorem namesK_low {A B : Nm} {f : Int} (lA : A.length ≤ 2) (lB : B.length ≤ 3) (h : ∀ c ∈ A ++ B, 97 ≤ c ∧ c ≤ 122) : ∀ n ∈ namesK A B f, Low n := fun n hn => by
  obtain ⟨k, hk, rfl⟩ := List.mem_map.mp hn
  exact nameK_low lA lB h
inductive Rl
  | pay (c : Nm) | share (cs : List Nm) | repay (c : Nm) | fill (p : Nm) | lend (o : Nm) (x : Int) | back (o : Nm) | rest (c : Nm)
def Rl.d : Rl → D
  | .pay c => eTSS (cod "pay", c)
  | .share cs => eT2 eS (eSq eS) (cod "share", cs)
  | .repay c => eTSS (cod "repay", c)
  | .fill p => eTSS (cod "fill", p)
  | .lend o x => eT3 eS eS D.int (cod "lend", o, x)
  | .back o => eTSS (cod "back", o)
  | .rest c => eTSS (cod "rest", c)
def Rl.In (cs ps os : List Nm) : Rl → Prop
  | .pay c => c ∈ cs
  | .share l => (∀ c ∈ l, c ∈ cs) ∧ l.Nodup ∧ 2 ≤ l.length
  | .repay c => c ∈ cs
  | .fill p => p ∈ ps
  | .lend o x => o ∈ os ∧ 1 ≤ x ∧ x ≤ 1000000000000
  | .back o => o ∈ os
  | .rest _ => False
theorem pick_ok (ns : List Int) (k : Int) (hk : 0 ≤ k ∧ k ≤ 100000) {cs : List Nm} (h0 : 1 ≤ cs.length) {α : Type} {kk : Int → Nm → Option α} {R : α → Prop} (h : ∀ x, ∀ c ∈ cs, Ok (kk x c) R) :
    Ok ((n_law_draw ns k (cs.length : Int)).bind fun x => (atI cs x).bind fun c => kk x c) R := by
  refine ok_bind (draw_ok ns k (cs.length : Int) hk (by omega)) fun x hx => ?_
  obtain ⟨c, hc, e, _⟩ := atI_in hx.1 hx.2
  rw [e]; exact h x c hc
theorem cut2 {cs : List Nm} : cutA cs none (some 2) = cs.take 2 := by
  unfold cutA
  rw [show HT.sIx cs.length 0 none = 0 from rfl, sIx_i (by omega), List.drop_zero, Nat.sub_zero]
  have : (2 : Int).toNat = 2 := rfl
  rw [this]
  by_cases h : cs.length ≤ 2
  · rw [Nat.min_eq_right h, List.take_of_length_le (by omega), List.take_of_length_le h]
  · rw [Nat.min_eq_left (by omega)]
theorem cutL1 {cs : List Nm} (h : 1 ≤ cs.length) : cutA cs (some (-1)) none = cs.drop (cs.length - 1) := by
  unfold cutA
  have e : HT.sIx cs.length 0 (some (-1)) = cs.length - 1 := by unfold HT.sIx; simp; omega
  have e2 : HT.sIx cs.length cs.length none = cs.length := rfl
  rw [e, e2]
  rw [List.take_of_length_le (by rw [List.length_drop]; omega)]
theorem cutR1 {cs : List Nm} (h : 1 ≤ cs.length) : cutA cs none (some (-1)) = cs.take (cs.length - 1) := by
  unfold cutA
  have e : HT.sIx cs.length cs.length (some (-1)) = cs.length - 1 := by unfold HT.sIx; simp; omega
  rw [show HT.sIx cs.length 0 none = 0 from rfl, e]; rfl
theorem rule_ok (ns : List Int) (k : Int) (hk : 0 ≤ k ∧ k ≤ 90000) {cs ps os : List Nm} (h0 : 1 ≤ cs.length) (hn : cs.Nodup) (hl : cs.length ≤ 1000) : Ok (n_law_rule ns k cs ps os) fun d => ∃ r : Rl, d = r.d ∧ r.In cs ps os := by
  unfold n_law_rule
  refine ok_bind (draw_ok ns k 9 (by omega) (by omega)) fun d _ => ?_
  refine pick_ok ns (k + 1) (by omega) h0 fun x c hc => ?_
  refine ok_dite (fun _ => ok_some ⟨.pay c, rfl, hc⟩) (fun _ => ?_)
  refine ok_bind (Q := fun b => b = true → 1 < cs.length) ?_ fun b hb => ?_
  · refine ok_dite (fun _ => ?_) (fun _ => ok_some (fun h => nomatch h))
    refine ok_bind (Q := fun b => b = true → 1 < cs.length) ?_ fun b hb => ok_some hb
    refine ok_dite (fun h => ?_) (fun _ => ok_some (fun h => nomatch h))
    exact ok_bind (draw_ok ns (k + 2) 2 (by omega) (by omega)) fun y _ => ok_some fun _ => by omega
  refine ok_ite (fun hb' => ?_) (fun _ => ?_)
  · have hl := hb hb'
    refine ok_some ⟨.share (cutA cs none (some 2)), rfl, fun c hc => cutA_mem hc, ?_, ?_⟩
    · rw [cut2]; exact hn.sublist (List.take_sublist _ _)
    · rw [cut2, List.length_take]; omega
  refine ok_ite (fun hb' => ?_) (fun _ => ?_)
  · have hl2 : 1 < cs.length := by
      have := (Bool.and_eq_true _ _ ▸ hb').2
      have := of_decide_eq_true this
      omega
    have l1 := cutA_len cs (some (-1)) none
    have l2 := cutA_len cs none (some (-1))
    refine ok_eq (catL_eq (by omega)) ?_
    refine ok_some ⟨.share (cutA cs (some (-1)) none ++ cutA cs none (some (-1))), rfl, fun c hc => (List.mem_append.mp hc).elim cutA_mem cutA_mem, ?_, ?_⟩
    · rw [cutL1 (by omega), cutR1 (by omega)]
      have := List.take_append_drop (cs.length - 1) cs
      refine (List.perm_append_comm.nodup_iff).mp ?_
      rw [this]; exact hn
    · rw [cutL1 (by omega), cutR1 (by omega), List.length_append, List.length_drop, List.length_take]; omega
  refine ok_dite (fun _ => ok_some ⟨.repay c, rfl, hc⟩) (fun _ => ?_)
  refine ok_ite (fun hb' => ?_) (fun _ => ?_)
  · have hp := of_decide_eq_true (Bool.and_eq_true _ _ ▸ hb').2
    exact pick_ok ns (k + 2) (by omega) (by omega) fun x p hp => ok_some ⟨.fill p, rfl, hp⟩
  refine ok_ite (fun hb' => ?_) (fun _ => ok_some ⟨.pay c, rfl, hc⟩)
  have ho := of_decide_eq_true (Bool.and_eq_true _ _ ▸ hb').2
  refine pick_ok ns (k + 2) (by omega) (by omega) fun x o ho => ?_
  refine ok_dite (fun _ => ok_some ⟨.back o, rfl, ho⟩) (fun _ => ?_)
  exact ok_bind (coins_ok ns (k + 3) (by omega)) fun y hy => ok_some ⟨.lend o y, rfl, ho, hy.1, hy.2⟩
def Rl.held : Rl → List Nm
  | .share cs => cs
  | .repay c => [c]
  | _ => []
abbrev TO : Type := Nm × List TSI × List Rl
def TO.d (o : TO) : R2 := (o.1, o.2.1, o.2.2.map Rl.d)
def TO.held (o : TO) : List Nm := o.2.2.flatMap Rl.held
structure TOk (cs ps os : List Nm) (o : TO) : Prop where
  parts : ∀ p ∈ o.2.1, p.1 ∈ cs ∧ 1 ≤ p.2 ∧ p.2 ≤ 10
  sub : (o.2.1.map (·.1)).Sublist cs
  rules : ∃ (rs : List Rl) (c : Nm), o.2.2 = rs ++ [Rl.rest c] ∧ (∀ r ∈ rs, r.In cs ps os) ∧ c ∈ cs ∧ rs.length ≤ 5
theorem order_ok (ns : List Int) (k : Int) (hk : 0 ≤ k ∧ k ≤ 80000) (n : Nm) {cs ps os : List Nm} (h0 : 1 ≤ cs.length) (hn : cs.Nodup) (hl : cs.length ≤ 1000) :
    Ok (n_law_order ns k n cs ps os) fun o => ∃ t : TO, o = t.d ∧ t.1 = n ∧ TOk cs ps os t := by
  unfold n_law_order
  have hlen := enumN_len 0 cs
  refine ok_bind (ok_fold0 (I := fun done pts => (∀ p ∈ pts, p.1 ∈ cs ∧ 1 ≤ p.2 ∧ p.2 ≤ 10) ∧ pts.length ≤ done.length ∧ (pts.map (·.1)).Sublist (done.map (·.2))) ⟨by simp, by simp, by simp⟩ fun pre x post pts hp hi => ?_) fun pts hpts => ?_
  · have hm := enumN_mem (k := 0) (xs := cs) (p := x) (by rw [hp]; simp)
    have hpl : pre.length < cs.length := by
      have := congrArg List.length hp
      simp at this; omega
    refine ok_bind (draw_ok ns (k + x.1) 4 (by omega) (by omega)) fun d _ => ?_
    refine ok_dite (fun _ => ?_) (fun _ => ok_some ⟨hi.1, by rw [List.length_append]; omega, by rw [List.map_append]; exact hi.2.2.trans (List.sublist_append_left _ _)⟩)
    refine ok_bind (draw_ok ns (k + 5 + x.1) 10 (by omega) (by omega)) fun y hy => ?_
    refine ok_eq (push_eq (by omega)) (ok_some ⟨fun p hp => ?_, by simp; omega, ?_⟩)
    · rcases List.mem_append.mp hp with hp | hp
      · exact hi.1 p hp
      · rw [List.mem_singleton.mp hp]; exact ⟨hm.2.2, by show 1 ≤ 1 + y; omega, by show 1 + y ≤ 10; omega⟩
    · rw [List.map_append, List.map_append]; exact hi.2.2.append (List.Sublist.refl _)
  refine ok_bind (draw_ok ns (k + 8) 6 (by omega) (by omega)) fun m hm => ?_
  refine ok_eq (rng1_eq (by omega) (by omega)) ?_
  refine ok_bind (ok_fold0 (I := fun done ds => ∃ rs : List Rl, ds = rs.map Rl.d ∧ (∀ r ∈ rs, r.In cs ps os) ∧ rs.length = done.length) ⟨[], rfl, by simp, rfl⟩ fun pre x post ds hp hi => ?_) fun ds hds => ?_
  · obtain ⟨rs, rfl, h1, h2⟩ := hi
    have hx := rngN_mem (lo := 0) (n := m.toNat) (i := x) (by rw [hp]; simp)
    have hpl : pre.length < 6 := by
      have := congrArg List.length hp
      rw [rngN_len] at this
      simp at this; omega
    refine ok_bind (rule_ok ns (k + 10 + 5 * x) (by omega) h0 hn hl) fun d hd => ?_
    obtain ⟨r, rfl, hr⟩ := hd
    refine ok_eq (push_eq (by rw [List.length_map]; omega)) (ok_some ⟨rs ++ [r], by simp, fun z hz => ?_, by simp [h2]⟩)
    rcases List.mem_append.mp hz with hz | hz
    · exact h1 z hz
    · rw [List.mem_singleton.mp hz]; exact hr
  obtain ⟨rs, rfl, h1, h2⟩ := hds
  rw [rngN_len] at h2
  refine pick_ok ns (k + 9) (by omega) h0 fun x c hc => ?_
  refine ok_eq (catL_eq (by rw [List.length_map]; simp; omega)) (ok_some ⟨(n, pts, rs ++ [Rl.rest c]), ?_, rfl, hpts.1, ?_, rs, c, rfl, h1, hc, by omega⟩)
  · show _ = (n, pts, (rs ++ [Rl.rest c]).map Rl.d)
    rw [List.map_append]; rfl
  have := hpts.2.2
  rw [enumN_snd] at this
  exact this
theorem some_ok (ns : List Int) (k : Int) (hk : 0 ≤ k ∧ k ≤ 80000) (xs : List Nm) (hl : xs.length ≤ 1000) (hn : xs.Nodup) : Ok (n_law_some ns k xs) fun ys => ys.Nodup ∧ (∀ y ∈ ys, y ∈ xs) ∧ ys.length ≤ xs.length := by
  unfold n_law_some
  refine ok_bind (ok_fold0 (I := fun done ys => ys.Sublist (done.map (·.2))) (by simp) fun pre x post ys hp hi => ?_) fun ys hys => ?_
  · have hm := enumN_mem (k := 0) (xs := xs) (p := x) (by rw [hp]; simp)
    have hpl : pre.length < xs.length := by
      have := congrArg List.length hp
      rw [enumN_len] at this
      simp at this; omega
    have hyl := hi.length_le
    rw [List.length_map] at hyl
    refine ok_bind (draw_ok ns (k + x.1) 3 (by omega) (by omega)) fun d _ => ?_
    refine ok_dite (fun _ => ?_) (fun _ => ok_some (by rw [List.map_append]; exact hi.trans (List.sublist_append_left _ _)))
    exact ok_eq (push_eq (by omega)) (ok_some (by rw [List.map_append]; exact hi.append (List.Sublist.refl _)))
  rw [enumN_snd] at hys
  refine ok_bind (draw_ok ns (k + 9) 2 (by omega) (by omega)) fun d _ => ?_
  refine ok_bind (Q := fun zs => zs.Nodup ∧ (∀ y ∈ zs, y ∈ xs) ∧ zs.length ≤ xs.length) ?_ fun zs hz => ok_some hz
  have h1 : ys.Nodup := hn.sublist hys
  refine ok_dite (fun _ => ok_some ⟨?_, fun y hy => hys.subset (List.mem_reverse.mp hy), ?_⟩) (fun _ => ok_some ⟨h1, fun y hy => hys.subset hy, hys.length_le⟩)
  · exact List.pairwise_reverse.mpr (List.Pairwise.imp (fun h => Ne.symm h) h1)
  · rw [List.length_reverse]; exact hys.length_le
theorem TOk.all {cs ps os : List Nm} {o : TO} (h : TOk cs ps os o) : (∀ r ∈ o.2.2, r.In cs ps os ∨ ∃ c ∈ cs, r = .rest c) ∧ o.2.2.length ≤ 6 := by
  obtain ⟨rs, c, e, h1, h2, h3⟩ := h.rules
  rw [e]
  refine ⟨fun r hr => ?_, by simp; omega⟩
  rcases List.mem_append.mp hr with hr | hr
  · exact .inl (h1 r hr)
  · exact .inr ⟨c, h2, List.mem_singleton.mp hr⟩
theorem held_len {cs ps os : List Nm} {r : Rl} (hl : cs.length ≤ 1000) (h : r.In cs ps os ∨ ∃ c ∈ cs, r = .rest c) : r.held.length ≤ 1000 := by
  rcases h with h | ⟨c, _, rfl⟩
  · cases r with
    | share l =>
      have : ∀ (l cs : List Nm), l.Nodup → (∀ c ∈ l, c ∈ cs) → l.length ≤ cs.length := fun l => by
        induction l with
        | nil => intro cs _ _; simp
        | cons x l ih =>
          intro cs hn hs
          have hx := hs x (by simp)
          have := ih (cs.erase x) (List.nodup_cons.mp hn).2 (fun c hc => by
            have hne : c ≠ x := fun e => (List.nodup_cons.mp hn).1 (e ▸ hc)
            exact (List.mem_erase_of_ne hne).mpr (hs c (by simp [hc])))
          rw [List.length_erase_of_mem hx] at this
          have : 1 ≤ cs.length := List.length_pos_of_mem hx
          rw [List.length_cons]; omega
      exact Nat.le_trans (this l cs h.2.1 h.1) hl
    | repay c => simp [Rl.held]
    | _ => simp [Rl.held]
  · simp [Rl.held]
def freeStep (x8 : D) (s7 : List D) : Option (List D) :=
  (ixD x8 (0 : Int)).bind fun x10 =>
  (eqQ (eD x10) (eS (cod "share"))).bind fun x11 =>
  ((if x11 = true then
  ((ixD x8 (1 : Int)).bind fun x12 =>
  (itemsT (.p x12)).bind fun x13 =>
  (catL s7 x13).bind fun x14 =>
  some x14)
  else (some s7)) : Option ((List D))).bind fun s15 =>
  (ixD x8 (0 : Int)).bind fun x16 =>
  (eqQ (eD x16) (eS (cod "repay"))).bind fun x17 =>
  (if x17 = true then
  ((ixD x8 (1 : Int)).bind fun x18 =>
  (push s15 x18).bind fun x19 =>
  some x19)
  else (some s15))
theorem eqQ_f {a b : Nm} (h : ¬ a = b) : eqQ (eS a) (eS b) = some false := by rw [eqQ_g, decide_eq_false h]
theorem eqQ_t {a : Nm} : eqQ (eS a) (eS a) = some true := by rw [eqQ_g, decide_eq_true rfl]
theorem free_step (r : Rl) (ls : List Nm) (h1 : ls.length ≤ 8000000) (h2 : r.held.length ≤ 1000) : freeStep r.d (ls.map eS) = some ((ls ++ r.held).map eS) := by
  have hn : ∀ (w : Nm) (x : D), ¬ w = cod "share" → ¬ w = cod "repay" → freeStep (.tup [eS w, x]) (ls.map eS) = some (ls.map eS) := fun w x ha hb => by
    show Option.bind (some _) _ = _
    rw [bindS, eqQ_f ha, bindS]
    show Option.bind (some _) _ = _
    rw [bindS]
    show Option.bind (some _) _ = _
    rw [bindS, eqQ_f hb, bindS]; rfl
  cases r with
  | pay c => rw [show (Rl.pay c).held = [] from rfl, List.append_nil]; exact hn (cod "pay") _ (by decide) (by decide)
  | fill c => rw [show (Rl.fill c).held = [] from rfl, List.append_nil]; exact hn (cod "fill") _ (by decide) (by decide)
  | back c => rw [show (Rl.back c).held = [] from rfl, List.append_nil]; exact hn (cod "back") _ (by decide) (by decide)
  | rest c => rw [show (Rl.rest c).held = [] from rfl, List.append_nil]; exact hn (cod "rest") _ (by decide) (by decide)
  | lend c x =>
    rw [show (Rl.lend c x).held = [] from rfl, List.append_nil]
    show Option.bind (some _) _ = _
    rw [bindS, eqQ_f (show ¬ cod "lend" = cod "share" by decide), bindS]
    show Option.bind (some _) _ = _
    rw [bindS]
    show Option.bind (some _) _ = _
    rw [bindS, eqQ_f (show ¬ cod "lend" = cod "repay" by decide), bindS]; rfl
  | share l =>
    have h2 : l.length ≤ 1000 := h2
    have e0 : ixD (Rl.share l).d 0 = some (eS (cod "share")) := rfl
    have e1 : ixD (Rl.share l).d 1 = some (eSq eS l) := rfl
    have e2 : itemsT (.p (eSq eS l)) = some (l.map eS) := rfl
    unfold freeStep
    rw [e0, bindS, eqQ_t, bindS, if_pos rfl, e1, bindS, e2, bindS, catL_eq (by rw [List.length_map, List.length_map]; omega), bindS, bindS, bindS, eqQ_f (show ¬ cod "share" = cod "repay" by decide), bindS, if_neg (by simp), List.map_append]; rfl
  | repay c =>
    have e0 : ixD (Rl.repay c).d 0 = some (eS (cod "repay")) := rfl
    have e1 : ixD (Rl.repay c).d 1 = some (eS c) := rfl
    unfold freeStep
    rw [e0, bindS, eqQ_f (show ¬ cod "repay" = cod "share" by decide), bindS, if_neg (by simp), bindS, bindS, eqQ_t, bindS, if_pos rfl, e1, bindS, push_eq (by rw [List.length_map]; omega), bindS, List.map_append]; rfl
theorem free_fold : ∀ (rs : List Rl) (ls : List Nm) (b : Nat), ls.length + 1000 * rs.length ≤ b → b ≤ 8000000 → (∀ r ∈ rs, r.held.length ≤ 1000) → fold freeStep (rs.map Rl.d) (ls.map eS) = some ((ls ++ rs.flatMap Rl.held).map eS)
  | [], ls, b, _, _, _ => by simp [fold]
  | r :: rs, ls, b, h1, h2, h3 => by
    rw [List.length_cons] at h1
    have hr := h3 r (by simp)
    rw [List.map_cons]
    show (freeStep r.d (ls.map eS)).bind _ = _
    rw [free_step r ls (by omega) hr, bindS, free_fold rs (ls ++ r.held) b (by rw [List.length_append]; omega) h2 fun x hx => h3 x (by simp [hx])]
    simp
theorem inQ_w (c : Nm) (ls : List Nm) : inQ (eS c) (eLs eD (ls.map eS)) = some (decide (c ∈ ls)) := by
  show inQ (eS c) (.lst ((ls.map eS).map eD)) = _
  rw [show (eD : D → D) = id from rfl, List.map_id]
  exact g_inL c ls
theorem free_ok (orders : List TO) (cs ps os : List Nm) (hl : cs.length ≤ 1000) (ho : orders.length ≤ 10) (h : ∀ o ∈ orders, TOk cs ps os o) :
    n_law_free (orders.map TO.d) cs = some (cs.filter fun c => !decide (c ∈ orders.flatMap TO.held)) := by
  have go : ∀ (os2 : List TO) (ls : List Nm) (b : Nat), ls.length + 10000 * os2.length ≤ b → b ≤ 7000000 → (∀ o ∈ os2, TOk cs ps os o) → fold (fun (x2 : R2) (s1 : List D) => (fold freeStep x2.2.2 s1).bind fun s20 => some s20) (os2.map TO.d) (ls.map eS) = some ((ls ++ os2.flatMap TO.held).map eS) := by
    intro os2
    induction os2 with
    | nil => intro ls b _ _ _; simp [fold]
    | cons o os2 ih =>
      intro ls b h1 h2 h3
      rw [List.length_cons] at h1
      obtain ⟨e2, e3⟩ := (h3 o (by simp)).all
      have hh : ∀ r ∈ o.2.2, r.held.length ≤ 1000 := fun r hr => held_len hl (e2 r hr)
      have hlen : o.held.length ≤ 6000 := by
        have : ∀ rs : List Rl, (∀ r ∈ rs, r.held.length ≤ 1000) → (rs.flatMap Rl.held).length ≤ 1000 * rs.length := fun rs => by
          induction rs with
          | nil => intro _; simp
          | cons r rs ih =>
            intro hr
            have a := hr r (by simp)
            have b := ih fun x hx => hr x (by simp [hx])
            rw [List.flatMap_cons, List.length_append, List.length_cons]; omega
        have := this _ hh
        show (o.2.2.flatMap Rl.held).length ≤ 6000
        omega
      show Option.bind ((fold freeStep (o.2.2.map Rl.d) (ls.map eS)).bind _) _ = _
      rw [free_fold o.2.2 ls 8000000 (by omega) (by omega) hh, bindS, bindS]
      show fold _ (os2.map TO.d) ((ls ++ o.held).map eS) = _
      rw [ih (ls ++ o.held) b (by rw [List.length_append]; omega) h2 fun x hx => h3 x (by simp [hx])]
      simp
  have hf := go orders [] 100000 (by simp; omega) (by omega) h
  rw [List.nil_append] at hf
  show Option.bind (fold (fun (x2 : R2) (s1 : List D) => (fold freeStep x2.2.2 s1).bind fun s20 => some s20) (orders.map TO.d) ([] : List D)) _ = _
  rw [show ([] : List D) = ([] : List Nm).map eS from rfl, hf, bindS]
  rw [compG_eq (p := fun c => !decide (c ∈ orders.flatMap TO.held)) (g := fun c => c) (by omega) (fun c hc => by rw [inQ_w, bindS]; split <;> rfl), bindS, List.map_id']
abbrev TP : Type := Nm × (List TSII) × (List TSI) × (List Nm) × (List TO) × (List TSIS) × (List TSS)
def TP.d (p : TP) : R3 := (p.1, p.2.1, p.2.2.1, p.2.2.2.1, p.2.2.2.2.1.map TO.d, p.2.2.2.2.2.1, p.2.2.2.2.2.2)
def onames : List Nm := [cod "bb", cod "ck", cod "dd"]
structure PoolOk (cs ps os : List Nm) (p : TP) : Prop where
  claims : p.2.1.map (·.1) = cs
  sizes : ∀ c ∈ p.2.1, (1 ≤ c.2.1 ∧ c.2.1 ≤ 1000000000000) ∧ 1 ≤ c.2.2 ∧ c.2.2 ≤ 1000000000000
  pots : p.2.2.1.map (·.1) = ps
  marks : ∀ c ∈ p.2.2.1, 1 ≤ c.2 ∧ c.2 ≤ 1000000000000
  eat : p.2.2.2.1.Nodup ∧ ∀ c ∈ p.2.2.2.1, c ∈ cs
  orders : ∀ o ∈ p.2.2.2.2.1, TOk cs ps os o
  onames : ∃ k, 1 ≤ k ∧ k ≤ 3 ∧ p.2.2.2.2.1.map (·.1) = onames.take k
  looks : ∀ l ∈ p.2.2.2.2.2.1, l.1 ∈ cs ∧ (1 ≤ l.2.1 ∧ l.2.1 ≤ 3) ∧ l.2.2 ∈ p.2.2.2.2.1.map (·.1)
  lookn : p.2.2.2.2.2.1.length ≤ 2
  guards : ∀ g ∈ p.2.2.2.2.2.2, g.1 ∈ ps ∧ g.2 ∈ cs ∧ g.2 ∉ p.2.2.2.2.1.flatMap TO.held
  guardn : (p.2.2.2.2.2.2.map (·.2)).Nodup ∧ p.2.2.2.2.2.2.length ≤ 3
theorem cutTake {α : Type} {xs : List α} {k : Int} (h : 0 ≤ k) : cutA xs none (some k) = xs.take k.toNat := by
  unfold cutA
  rw [show HT.sIx xs.length 0 none = 0 from rfl, sIx_i h, List.drop_zero, Nat.sub_zero]
  by_cases h : xs.length ≤ k.toNat
  · rw [Nat.min_eq_right h, List.take_of_length_le (by omega), List.take_of_length_le h]
  · rw [Nat.min_eq_left (by omega)]
theorem pool_ok (ns : List Int) (k : Int) (hk : 0 ≤ k ∧ k ≤ 70000) (n : Nm) {cs ps os : List Nm} (h0 : 1 ≤ cs.length) (hn : cs.Nodup) (hl : cs.length ≤ 3) (hp : ps.length ≤ 2) :
    Ok (n_law_pool ns k n cs ps os) fun p => ∃ t : TP, p = t.d ∧ t.1 = n ∧ PoolOk cs ps os t := by
  unfold n_law_pool
  refine ok_bind (ok_fold0 (I := fun done xs => xs.map (·.1) = done.map (·.2) ∧ ∀ c ∈ xs, (1 ≤ c.2.1 ∧ c.2.1 ≤ 1000000000000) ∧ 1 ≤ c.2.2 ∧ c.2.2 ≤ 1000000000000) ⟨rfl, by simp⟩ fun pre x post xs hp hi => ?_) fun told htold => ?_
  · have hm := enumN_mem (k := 0) (xs := cs) (p := x) (by rw [hp]; simp)
    have hxl : xs.length < 4 := by
      have := congrArg List.length hp
      rw [enumN_len] at this
      have h2 := congrArg List.length hi.1
      simp at this h2; omega
    refine ok_bind (coins_ok ns (k + 20 + x.1) (by omega)) fun y hy => ?_
    refine ok_bind (coins_ok ns (k + 24 + x.1) (by omega)) fun z hz => ?_
    refine ok_eq (push_eq (by omega)) (ok_some ⟨by rw [List.map_append, List.map_append, hi.1]; rfl, fun c hc => ?_⟩)
    rcases List.mem_append.mp hc with hc | hc
    · exact hi.2 c hc
    · rw [List.mem_singleton.mp hc]; exact ⟨hy, hz⟩
  rw [enumN_snd] at htold
  refine ok_bind (draw_ok ns (k + 1) 3 (by omega) (by omega)) fun d hd => ?_
  have hcut : cutA [cod "bb", cod "ck", cod "dd"] none (some (1 + d)) = onames.take (1 + d).toNat := cutTake (by omega)
  rw [hcut]
  have hcl : (onames.take (1 + d).toNat).length = (1 + d).toNat := by rw [List.length_take]; show min _ 3 = _; omega
  refine ok_bind (ok_fold0 (I := fun done xs => ∃ ts : List TO, xs = ts.map TO.d ∧ ts.map (·.1) = done.map (·.2) ∧ ∀ o ∈ ts, TOk cs ps os o) ⟨[], rfl, rfl, by simp⟩ fun pre x post xs hp hi => ?_) fun orders horders => ?_
  · obtain ⟨ts, rfl, h1, h2⟩ := hi
    have hm := enumN_mem (k := 0) (xs := onames.take (1 + d).toNat) (p := x) (by rw [hp]; simp)
    have hxl : ts.length < 4 := by
      have := congrArg List.length hp
      rw [enumN_len, hcl] at this
      have h2 := congrArg List.length h1
      simp at this h2; omega
    rw [hcl] at hm
    refine ok_bind (order_ok ns (k + 60 * x.1 + 30) (by omega) x.2 h0 hn (by omega)) fun o ho => ?_
    obtain ⟨t, rfl, e, ht⟩ := ho
    refine ok_eq (push_eq (by rw [List.length_map]; omega)) (ok_some ⟨ts ++ [t], by simp, by rw [List.map_append, List.map_append, h1, List.map_singleton, e]; rfl, fun c hc => ?_⟩)
    rcases List.mem_append.mp hc with hc | hc
    · exact h2 c hc
    · rw [List.mem_singleton.mp hc]; exact ht
  obtain ⟨ts, rfl, ho1, ho2⟩ := horders
  rw [enumN_snd] at ho1
  have htl : ts.length ≤ 3 := by
    have := congrArg List.length ho1
    rw [hcl, List.length_map] at this
    omega
  refine ok_bind (draw_ok ns (k + 2) 3 (by omega) (by omega)) fun m hm => ?_
  refine ok_eq (rng1_eq (by omega) (by omega)) ?_
  refine ok_bind (ok_fold0 (I := fun done ls => ls.length = done.length ∧ ∀ l ∈ ls, l.1 ∈ cs ∧ (1 ≤ l.2.1 ∧ l.2.1 ≤ 3) ∧ l.2.2 ∈ onames.take (1 + d).toNat) ⟨rfl, by simp⟩ fun pre x post ls hp hi => ?_) fun looks hlooks => ?_
  · have hx := rngN_mem (lo := 0) (n := m.toNat) (i := x) (by rw [hp]; simp)
    have hpl : pre.length < 3 := by
      have := congrArg List.length hp
      rw [rngN_len] at this
      simp at this; omega
    refine pick_ok ns (k + 3 + x) (by omega) h0 fun _ c hc => ?_
    refine pick_ok ns (k + 5 + x) (by omega) (by rw [hcl]; omega) fun _ o ho => ?_
    refine ok_bind (draw_ok ns (k + 7 + x) 3 (by omega) (by omega)) fun y hy => ?_
    refine ok_eq (push_eq (by omega)) (ok_some ⟨by simp [hi.1], fun l hl => ?_⟩)
    rcases List.mem_append.mp hl with hl | hl
    · exact hi.2 l hl
    · rw [List.mem_singleton.mp hl]; exact ⟨hc, ⟨by show 1 ≤ 1 + y; omega, by show 1 + y ≤ 3; omega⟩, ho⟩
  rw [rngN_len] at hlooks
  rw [free_ok ts cs ps os (by omega) (by omega) ho2, bindS]
  refine ok_bind (draw_ok ns (k + 10) 4 (by omega) (by omega)) fun g hg => ?_
  rw [cutTake (by omega)]
  refine ok_bind (ok_fold0 (I := fun done gs => (gs.map (·.2)).Sublist (done.map (·.2)) ∧ ∀ g ∈ gs, g.1 ∈ ps ∧ g.2 ∈ done.map (·.2)) ⟨by simp, by simp⟩ fun pre x post gs hp hi => ?_) fun guards hguards => ?_
  · have hm := enumN_mem (p := x) (by rw [hp]; simp)
    have hpl : gs.length < 4 := by
      have h2 := hi.1.length_le
      have := congrArg List.length hp
      rw [enumN_len, List.length_take] at this
      simp at this h2; omega
    have hm1 : x.1 < 4 := by
      have := hm.2.1
      rw [List.length_take] at this
      omega
    refine ok_dite (fun h => ?_) (fun h => ok_some ⟨by rw [List.map_append]; exact hi.1.trans (List.sublist_append_left _ _), fun g hg => ⟨(hi.2 g hg).1, by rw [List.map_append]; exact List.mem_append_left _ (hi.2 g hg).2⟩⟩)
    refine pick_ok ns (k + 11 + x.1) (by omega) (by omega) fun _ p hp2 => ?_
    refine ok_eq (push_eq (by omega)) (ok_some ⟨by rw [List.map_append, List.map_append]; exact hi.1.append (List.Sublist.refl _), fun g hg => ?_⟩)
    rcases List.mem_append.mp hg with hg | hg
    · exact ⟨(hi.2 g hg).1, by rw [List.map_append]; exact List.mem_append_left _ (hi.2 g hg).2⟩
    · rw [List.mem_singleton.mp hg]; exact ⟨hp2, by simp⟩
  rw [enumN_snd] at hguards
  refine ok_bind (o := compO _ _) (Q := fun ms => ms.map (·.1) = ps ∧ ∀ c ∈ ms, 1 ≤ c.2 ∧ c.2 ≤ 1000000000000) ?_ fun marks hmarks => ?_
  · have go : ∀ (j : Nat) (qs : List Nm), j + qs.length ≤ 100 → Ok (mapO (fun (x41 : TIS) => (n_law_coins ns ((k + 16) + x41.1)).bind fun x42 => some (x41.2, x42)) (enumN j qs)) fun ms => ms.map (·.1) = qs ∧ ∀ c ∈ ms, 1 ≤ c.2 ∧ c.2 ≤ 1000000000000 := by
      intro j qs
      induction qs generalizing j with
      | nil => intro _; exact ok_some ⟨rfl, by simp⟩
      | cons q qs ih =>
        intro hj
        rw [List.length_cons] at hj
        obtain ⟨y, hy, hy2⟩ := coins_ok ns (k + 16 + (j : Int)) (by omega)
        show Ok (Option.bind (Option.bind _ _) _) _
        rw [hy, bindS, bindS]
        obtain ⟨ms, h1, h2, h3⟩ := ih (j + 1) (by omega)
        rw [h1]
        refine ok_some ⟨by rw [List.map_cons, h2], fun c hc => ?_⟩
        rcases List.mem_cons.mp hc with rfl | hc
        · exact hy2
        · exact h3 c hc
    unfold compO
    rw [if_pos (by rw [enumN_len]; omega)]
    exact go 0 ps (by omega)
  refine ok_bind (some_ok ns (k + 13) (by omega) cs (by omega) hn) fun eat heat => ok_some ⟨(n, told, marks, eat, ts, looks, guards), rfl, rfl, ?_⟩
  have hfree : (cs.filter fun c => !decide (c ∈ ts.flatMap TO.held)).Nodup := hn.sublist (List.filter_sublist)
  refine ⟨htold.1, htold.2, hmarks.1, hmarks.2, ⟨heat.1, heat.2.1⟩, ho2, ⟨(1 + d).toNat, by omega, by omega, ho1⟩, fun l hl => ⟨(hlooks.2 l hl).1, (hlooks.2 l hl).2.1, ?_⟩, by show looks.length ≤ 2; omega, fun gg hgg => ?_, ?_, ?_⟩
  · show l.2.2 ∈ ts.map (·.1)
    rw [ho1]; exact (hlooks.2 l hl).2.2
  · obtain ⟨q1, q2⟩ := hguards.2 gg hgg
    have q3 := List.mem_filter.mp (List.mem_of_mem_take q2)
    refine ⟨q1, q3.1, ?_⟩
    have := q3.2
    simpa using this
  · exact (hfree.sublist (List.take_sublist _ _)).sublist hguards.1
  · have := hguards.1.length_le
    rw [List.length_take, List.length_map] at this
    show guards.length ≤ 3
    omega
end DK
namespace DK
open PySem PySem.Spec PyProof.Rows L2 DL
theorem cutMid {α : Type} {xs : List α} {a b : Int} (h0 : 0 ≤ a) (h1 : a ≤ b) (h2 : b ≤ xs.length) : cutA xs (some a) (some b) = (xs.drop a.toNat).take (b.toNat - a.toNat) := by
  unfold cutA
  rw [sIx_i h0, sIx_i (by omega), Nat.min_eq_left (by omega), Nat.min_eq_left (by omega)]
theorem getD_of {α : Type} {xs : List α} {i : Int} (d : α) (h0 : 0 ≤ i) (h1 : i < xs.length) : atI xs i = some (xs.getD i.toNat d) := by
  obtain ⟨x, _, e, e2⟩ := atI_in h0 h1
  rw [e, List.getD_eq_getElem?_getD, e2]; rfl
def claimsAt (N : List Nm) (k c : Nat) : List Nm := (N.drop (3 + 4 * k)).take c
def potsAt (N : List Nm) (k p : Nat) : List Nm := [N.getD (6 + 4 * k) [], N.getD (6 + 4 * k) [] ++ cod "h"].take p
def othersAt (N : List Nm) (k m : Nat) : List Nm := (N.take m).filter fun x => !decide (x = N.getD k [])
structure PoolAt (N : List Nm) (m k : Nat) (t : TP) : Prop where
  name : t.1 = N.getD k []
  ok : ∃ c p, 1 ≤ c ∧ c ≤ 3 ∧ p ≤ 2 ∧ PoolOk (claimsAt N k c) (potsAt N k p) (othersAt N k m) t
structure DealOk (most : Nat) (ts : List TP) : Prop where
  names : ∃ N : List Nm, N.Nodup ∧ N.length = 16 ∧ (∀ n ∈ N, Low n) ∧ 1 ≤ ts.length ∧ ts.length ≤ most ∧ ∀ k t, ts[k]? = some t → PoolAt N ts.length k t
def PotsApart (ts : List TP) : Prop := ∀ (j k : Nat) u v, j ≠ k → ts[j]? = some u → ts[k]? = some v → ∀ x ∈ u.2.2.1.map (·.1), x ∉ v.2.2.1.map (·.1)
theorem potsAt_apart {N : List Nm} {L : Nat} (hnd : N.Nodup) (hlen : N.length = 16) (hL : ∀ n ∈ N, n.length = L) {j k p q : Nat} (hj : j ≤ 2) (hk : k ≤ 2) (hne : j ≠ k) : ∀ x ∈ potsAt N j p, x ∉ potsAt N k q := fun x hx hy => by
  have hh : (cod "h").length = 1 := by decide
  have hx := List.mem_of_mem_take hx
  have hy := List.mem_of_mem_take hy
  have g1 : N.getD (6 + 4 * j) [] = N[6 + 4 * j]'(by omega) := by rw [List.getD_eq_getElem?_getD, List.getElem?_eq_getElem (by omega)]; rfl
  have g2 : N.getD (6 + 4 * k) [] = N[6 + 4 * k]'(by omega) := by rw [List.getD_eq_getElem?_getD, List.getElem?_eq_getElem (by omega)]; rfl
  have l1 := hL _ (List.getElem_mem (show 6 + 4 * j < N.length by omega))
  have l2 := hL _ (List.getElem_mem (show 6 + 4 * k < N.length by omega))
  rw [g1] at hx
  rw [g2] at hy
  have hn : N[6 + 4 * j]'(by omega) ≠ N[6 + 4 * k]'(by omega) := fun e => hne (by have := (List.getElem_inj hnd).mp e; omega)
  simp only [List.mem_cons, List.not_mem_nil, or_false] at hx hy
  rcases hx with rfl | rfl <;> rcases hy with e | e
  · exact hn e
  · have := congrArg List.length e
    rw [List.length_append] at this; omega
  · have := congrArg List.length e
    rw [List.length_append] at this; omega
  · exact hn (List.append_cancel_right e)
theorem deal_okD (ns : List Int) (most : Int) (hm : 1 ≤ most ∧ most ≤ 3) : Ok (n_law_deal ns most) fun d => ∃ ts : List TP, d = ts.map TP.d ∧ DealOk most.toNat ts ∧ PotsApart ts := by
  unfold n_law_deal
  obtain ⟨A, B, f, lA, lB, lc, hN⟩ := names_ok ns
  rw [hN, bindS]
  have hlen := namesK_len A B f
  have hnd := namesK_nodup A B f
  have hlow := namesK_low (f := f) lA lB lc
  have hleq : ∀ n ∈ namesK A B f, n.length = A.length + 1 + B.length := fun n hn => by
    obtain ⟨k, hk, rfl⟩ := List.mem_map.mp hn
    unfold nameK
    rw [List.length_append, List.length_append]; rfl
  generalize namesK A B f = N at *
  refine ok_bind (draw_ok ns 904 most (by omega) (by omega)) fun d hd => ?_
  refine ok_eq (rng1_eq (by omega) (by omega)) ?_
  refine ok_bind (ok_fold0 (I := fun done xs => ∃ ts : List TP, xs = ts.map TP.d ∧ ts.length = done.length ∧ ∀ k t, ts[k]? = some t → PoolAt N (1 + d).toNat k t) ⟨[], rfl, rfl, by simp⟩ fun pre x post xs hp hi => ?_) fun deal hdeal => ?_
  · obtain ⟨ts, rfl, h1, h2⟩ := hi
    have hplen : pre.length + (post.length + 1) = (1 + d).toNat := by
      have := congrArg List.length hp
      rw [rngN_len, List.length_append, List.length_cons] at this
      omega
    have hx : x = (pre.length : Int) := by
      have e := congrArg (fun l => l[pre.length]?) hp
      unfold rngN at e
      simp only [List.getElem?_append_right (Nat.le_refl _), Nat.sub_self, List.getElem?_cons_zero] at e
      rw [List.getElem?_map, List.getElem?_range (by omega)] at e
      have := Option.some.inj (show some ((0 : Int) + (pre.length : Int)) = some x from e)
      omega
    subst hx
    have hpl : pre.length ≤ 2 := by omega
    rw [cutMid (by omega) (by omega) (by omega)]
    have hc4 : ((N.drop (3 + 4 * (pre.length : Int)).toNat).take ((7 + 4 * (pre.length : Int)).toNat - (3 + 4 * (pre.length : Int)).toNat)) = (N.drop (3 + 4 * pre.length)).take 4 := by
      rw [show (7 + 4 * (pre.length : Int)).toNat - (3 + 4 * (pre.length : Int)).toNat = 4 by omega, show (3 + 4 * (pre.length : Int)).toNat = 3 + 4 * pre.length by omega]
    rw [hc4]
    have hl4 : ((N.drop (3 + 4 * pre.length)).take 4).length = 4 := by rw [List.length_take, List.length_drop]; omega
    refine ok_bind (draw_ok ns (905 + (pre.length : Int)) 3 (by omega) (by omega)) fun c hc => ?_
    have hp3 : atI ((N.drop (3 + 4 * pre.length)).take 4) 3 = some (N.getD (6 + 4 * pre.length) []) := by
      rw [getD_of [] (by omega) (by rw [hl4]; omega)]
      congr 1
      rw [List.getD_eq_getElem?_getD, List.getD_eq_getElem?_getD, List.getElem?_take_of_lt (by omega), List.getElem?_drop]
      congr 2
      show 3 + 4 * pre.length + 3 = _
      omega
    rw [hp3, bindS, bindS]
    have hlw : (N.getD (6 + 4 * pre.length) []).length ≤ 7 := by
      rw [List.getD_eq_getElem?_getD, List.getElem?_eq_getElem (by omega)]
      exact (hlow _ (List.getElem_mem (by omega))).2.1
    rw [catS_eq (by have e1 : (cod "h").length = 1 := (by decide); omega), bindS]
    refine ok_bind (draw_ok ns (910 + (pre.length : Int)) 3 (by omega) (by omega)) fun p hp2 => ?_
    have hat : atI N (pre.length : Int) = some (N.getD pre.length []) := by rw [getD_of [] (by omega) (by omega)]; rfl
    rw [cutTake (by omega), cutTake (by omega), cutTake (by omega)]
    rw [compG_eq (p := fun x => !decide (x = N.getD pre.length [])) (g := fun x => x) (by rw [List.length_take]; omega) (fun y hy => by rw [hat, bindS]; split <;> rfl), bindS, hat, bindS, List.map_id']
    have hcs : (((N.drop (3 + 4 * pre.length)).take 4).take (1 + c).toNat) = claimsAt N pre.length (1 + c).toNat := by
      unfold claimsAt
      rw [List.take_take, Nat.min_eq_left (by omega)]
    rw [hcs]
    have hcl : (claimsAt N pre.length (1 + c).toNat).length = (1 + c).toNat := by
      unfold claimsAt
      rw [List.length_take, List.length_drop]; omega
    have hcn : (claimsAt N pre.length (1 + c).toNat).Nodup := (hnd.sublist (List.drop_sublist _ _)).sublist (List.take_sublist _ _)
    refine ok_bind (pool_ok ns (200 * (pre.length : Int)) (by omega) (N.getD pre.length []) (cs := claimsAt N pre.length (1 + c).toNat) (ps := potsAt N pre.length p.toNat) (os := othersAt N pre.length (1 + d).toNat) (by omega) hcn (by omega) (by unfold potsAt; rw [List.length_take]; omega)) fun q hq => ?_
    obtain ⟨t, rfl, e, ht⟩ := hq
    refine ok_eq (push_eq (by rw [List.length_map]; omega)) (ok_some ⟨ts ++ [t], by simp, by simp [h1], fun k t2 hk => ?_⟩)
    rcases Nat.lt_or_ge k ts.length with hk2 | hk2
    · rw [List.getElem?_append_left hk2] at hk
      exact h2 k t2 hk
    · rw [List.getElem?_append_right hk2] at hk
      have hz : k - ts.length = 0 := by
        rcases Nat.eq_zero_or_pos (k - ts.length) with h | h
        · exact h
        · rw [List.getElem?_eq_none (by simp; omega)] at hk; cases hk
      rw [hz] at hk
      have : t = t2 := Option.some.inj hk
      subst this
      have hkk : k = pre.length := by omega
      subst hkk
      exact ⟨e, (1 + c).toNat, p.toNat, by omega, by omega, by omega, ht⟩
  obtain ⟨ts, rfl, h1, h2⟩ := hdeal
  rw [rngN_len] at h1
  refine ok_some ⟨ts, rfl, ⟨N, hnd, hlen, hlow, by omega, by omega, fun k t hk => ?_⟩, fun j k u v hne hj hk => ?_⟩
  · rw [h1]; exact h2 k t hk
  · obtain ⟨_, p, _, _, _, hu⟩ := (h2 j u hj).ok
    obtain ⟨_, q, _, _, _, hv⟩ := (h2 k v hk).ok
    rw [hu.pots, hv.pots]
    have := (List.getElem?_eq_some_iff.mp hj).1
    have := (List.getElem?_eq_some_iff.mp hk).1
    exact potsAt_apart hnd hlen hleq (by omega) (by omega) hne
theorem deal_ok (ns : List Int) (most : Int) (hm : 1 ≤ most ∧ most ≤ 3) : Ok (n_law_deal ns most) fun d => ∃ ts : List TP, d = ts.map TP.d ∧ DealOk most.toNat ts := ok_imp (deal_okD ns most hm) fun _ ⟨ts, e, h, _⟩ => ⟨ts, e, h⟩
end DK
namespace DK
open PySem PySem.Spec PyProof.Rows L2 DL
theorem rl_ok {cs ps os : List Nm} (hs : ∀ n ∈ cs ++ ps ++ os, Sok n) {r : Rl} (h : r.In cs ps os ∨ ∃ c ∈ cs, r = .rest c) : dOk 4 r.d = true := by
  have hc : ∀ n ∈ cs, Sok n := fun n hn => hs n (by simp [hn])
  have hp : ∀ n ∈ ps, Sok n := fun n hn => hs n (by simp [hn])
  have ho : ∀ n ∈ os, Sok n := fun n hn => hs n (by simp [hn])
  rcases h with h | ⟨c, hc2, rfl⟩
  · cases r with
    | pay c => exact dT2 (dS (sok_cod _)) (dS (hc c h))
    | share l => exact dT2 (dS (sok_cod _)) (dQ fun x hx => dS (hc x (h.1 x hx)))
    | repay c => exact dT2 (dS (sok_cod _)) (dS (hc c h))
    | fill c => exact dT2 (dS (sok_cod _)) (dS (hp c h))
    | lend c x => exact dT3 (dS (sok_cod _)) (dS (ho c h.1)) rfl
    | back c => exact dT2 (dS (sok_cod _)) (dS (ho c h))
    | rest c => exact h.elim
  · exact dT2 (dS (sok_cod _)) (dS (hc c hc2))
theorem take_mem {α : Type} {xs : List α} {k : Nat} {x : α} (h : x ∈ xs.take k) : x ∈ xs := List.mem_of_mem_take h
theorem pool_dOk {cs ps os : List Nm} (hs : ∀ n ∈ cs ++ ps ++ os, Sok n) {t : TP} (h : PoolOk cs ps os t) (hn : Sok t.1) : dOk 8 (eR3 t.d) = true := by
  have hc : ∀ n ∈ cs, Sok n := fun n hn => hs n (by simp [hn])
  have hp : ∀ n ∈ ps, Sok n := fun n hn => hs n (by simp [hn])
  have hon : ∀ n ∈ t.2.2.2.2.1.map (·.1), Sok n := fun n hn => by
    obtain ⟨k, _, _, e⟩ := h.onames
    rw [e] at hn
    have := take_mem hn
    simp only [onames, List.mem_cons, List.not_mem_nil, or_false] at this
    rcases this with rfl | rfl | rfl <;> exact sok_cod _
  refine dT7 (dS hn) (dL fun c hx => ?_) (dL fun c hx => ?_) (dL fun c hx => dS (hc c (h.eat.2 c hx))) (dL fun o hx => ?_) (dL fun l hx => ?_) (dL fun g hx => ?_)
  · exact dT3 (dS (hc c.1 (by rw [← h.claims]; exact List.mem_map.mpr ⟨c, hx, rfl⟩))) rfl rfl
  · exact dT2 (dS (hp c.1 (by rw [← h.pots]; exact List.mem_map.mpr ⟨c, hx, rfl⟩))) rfl
  · obtain ⟨o, ho, rfl⟩ := List.mem_map.mp hx
    have hk := h.orders o ho
    refine dT3 (dS (hon _ (List.mem_map.mpr ⟨o, ho, rfl⟩))) (dL fun p hp => dT2 (dS (hc _ (hk.parts p hp).1)) rfl) (dL fun r hr => ?_)
    obtain ⟨r2, hr2, rfl⟩ := List.mem_map.mp hr
    exact rl_ok hs (hk.all.1 r2 hr2)
  · have := h.looks l hx
    exact dT3 (dS (hc _ this.1)) rfl (dS (hon _ this.2.2))
  · have := h.guards g hx
    exact dT2 (dS (hp _ this.1)) (dS (hc _ this.2.1))
structure PoolG (cs ps os : List Nm) (t : TP) : Prop where
  sok : ∀ n ∈ cs ++ ps ++ os, Sok n
  c3 : cs.length ≤ 3
  cn : cs.Nodup
  p2 : ps.length ≤ 2
  ok : PoolOk cs ps os t
  nm : Sok t.1
theorem PoolG.dOk {cs ps os : List Nm} {t : TP} (h : PoolG cs ps os t) : DL.dOk 8 (eR3 t.d) = true := pool_dOk h.sok h.ok h.nm
theorem sub_len {α : Type} [DecidableEq α] : ∀ {es cs : List α}, es.Nodup → (∀ e ∈ es, e ∈ cs) → es.length ≤ cs.length
  | [], _, _, _ => Nat.zero_le _
  | e :: es, cs, hn, h => by
    rw [List.nodup_cons] at hn
    have h1 : es.length ≤ (cs.erase e).length := sub_len hn.2 fun x hx => (List.mem_erase_of_ne (fun z : x = e => hn.1 (by rw [← z]; exact hx))).mpr (h x (by simp [hx]))
    have h2 : e ∈ cs := h e (by simp)
    rw [List.length_erase_of_mem h2] at h1
    have := List.length_pos_of_mem h2
    rw [List.length_cons]; omega
def S {κ α : Type} (cs : List κ) (sz : κ → α) : List (κ × α) := cs.map fun c => (c, sz c)
def upf {κ α : Type} [DecidableEq κ] (sz : κ → α) (c : κ) (x : α) : κ → α := fun k => if k = c then x else sz k
section
variable {κ α : Type} [DecidableEq κ] {cs : List κ} {sz : κ → α} {c : κ} {x : α}
theorem S_len : (S cs sz).length = cs.length := List.length_map _
theorem S_keys : (S cs sz).map (·.1) = cs := by
  unfold S; rw [List.map_map]
  exact (List.map_congr_left fun _ _ => rfl).trans (List.map_id _)
theorem lk_S : c ∈ cs → lkN (S cs sz) c = some (sz c) := by
  induction cs with
  | nil => intro h; cases h
  | cons d cs ih =>
    intro h
    show lkN ((d, sz d) :: S cs sz) c = _
    rw [lk_cons]
    by_cases e : d = c
    · subst e; rw [if_pos rfl]
    · rw [if_neg e]
      rcases List.mem_cons.mp h with z | z
      · exact absurd z.symm e
      · exact ih z
theorem put_S (h : c ∈ cs) : putN (S cs sz) c x = S cs (upf sz c x) := by
  unfold putN
  rw [if_pos]
  · unfold S
    rw [List.map_map]
    apply List.map_congr_left
    intro d _
    show (if d = c then (d, x) else (d, sz d)) = (d, if d = c then x else sz d)
    split <;> rfl
  · rw [List.any_eq_true]
    exact ⟨(c, sz c), List.mem_map.mpr ⟨c, h, rfl⟩, decide_eq_true rfl⟩
theorem putK_S (h : c ∈ cs) (hl : cs.length < 16000000) : DL.putK (S cs sz) c x = some (S cs (upf sz c x)) := by
  unfold DL.putK
  rw [if_pos (by rw [S_len]; exact hl), put_S h]
theorem mkK_id {ps : List (κ × α)} (h : (ps.map (·.1)).Nodup) : mkK ps = ps := by
  have go : ∀ (qs acc : List (κ × α)), ((acc ++ qs).map (·.1)).Nodup → qs.foldl (fun acc p => putN acc p.1 p.2) acc = acc ++ qs := by
    intro qs
    induction qs with
    | nil => intro acc _; simp
    | cons q qs ih =>
      intro acc hn
      rw [List.foldl_cons]
      have hq : putN acc q.1 q.2 = acc ++ [q] := by
        unfold putN
        rw [if_neg]
        intro z
        obtain ⟨p, hp, e⟩ := List.any_eq_true.mp z
        rw [List.map_append, List.map_cons, List.nodup_append] at hn
        exact hn.2.2 p.1 (List.mem_map.mpr ⟨p, hp, rfl⟩) q.1 (by simp) (of_decide_eq_true e)
      rw [hq, ih (acc ++ [q]) (by simpa using hn)]
      simp
  exact go ps [] (by simpa using h)
theorem S_of [Inhabited α] {ps : List (κ × α)} (h : ps.map (·.1) = cs) (hn : cs.Nodup) (d : α) : ps = S cs fun c => (lkN ps c).getD d := by
  subst h
  unfold S
  rw [List.map_map]
  conv => lhs; rw [← List.map_id ps]
  apply List.map_congr_left
  intro p hp
  show p = (p.1, (lkN ps p.1).getD d)
  rw [lk_of hn (show (p.1, p.2) ∈ ps from hp)]; rfl
theorem mkK_S (hn : cs.Nodup) : mkK (S cs sz) = S cs sz := mkK_id (by rw [S_keys]; exact hn)
end
end DK
namespace FA
open PySem PySem.Spec PyProof.Rows L2 DL FAN
open DK (getD_of cutTake Rl S upf lk_S putK_S mkK_S S_of S_len S_keys)
theorem mixed_ok (c k : Int) (hk : 0 ≤ k ∧ k ≤ 100000) : Ok (n_law_mixed c k) fun x => 0 ≤ x ∧ x < 2147483647 := by
  unfold n_law_mixed
  refine ok_eq (mulN_l (by omega)) ?_
  have h0 := Int.emod_nonneg (c % 2147483647 * 48271 + (k * k + 3 * k + 7) * 69621) (show (2147483647 : Int) ≠ 0 by omega)
  have h1 := Int.emod_lt_of_pos (c % 2147483647 * 48271 + (k * k + 3 * k + 7) * 69621) (show (0 : Int) < 2147483647 by omega)
  generalize (c % 2147483647 * 48271 + (k * k + 3 * k + 7) * 69621) % 2147483647 = m at h0 h1
  refine ok_eq (mulN_l (by omega)) (ok_some ⟨Int.emod_nonneg _ (by omega), Int.emod_lt_of_pos _ (by omega)⟩)
theorem coins_ok (c w m : Int) (hw : 0 ≤ w ∧ w ≤ 2147483647) (hm : 7 ≤ m ∧ m ≤ 1000000000000) : Ok (n_law_coins c w m) fun x => 1 ≤ x ∧ x ≤ m := by
  unfold n_law_coins
  refine ok_dite (fun _ => ok_some (by omega)) fun _ => ?_
  refine ok_dite (fun _ => ok_some (by omega)) fun _ => ?_
  refine ok_dite (fun _ => ok_some (by have := Int.emod_nonneg c (show (7 : Int) ≠ 0 by omega); have := Int.emod_lt_of_pos c (show (0 : Int) < 7 by omega); omega)) fun _ => ?_
  refine ok_dite (fun _ => ok_bind (ok_mod (by omega)) fun x hx => ok_some (by omega)) fun _ => ?_
  refine ok_bind (ok_mod (by omega)) fun x hx => ?_
  refine ok_eq (mulN_r (by omega)) ?_
  exact ok_bind (ok_mod (by omega)) fun x hx => ok_some (by omega)
def seg (N : List Nm) (a n : Nat) : List Nm := (N.drop a).take n
theorem seg_snoc {N : List Nm} {a n : Nat} (h : a + n < N.length) : seg N a (n + 1) = seg N a n ++ [N.getD (a + n) []] := by
  unfold seg
  rw [List.take_add_one, List.getElem?_drop, List.getElem?_eq_getElem h, List.getD_eq_getElem?_getD, List.getElem?_eq_getElem h]; rfl
theorem seg_mem {N : List Nm} {a n : Nat} {x : Nm} (h : x ∈ seg N a n) : x ∈ N := List.mem_of_mem_drop (List.mem_of_mem_take h)
theorem seg_nodup {N : List Nm} {a n : Nat} (h : N.Nodup) : (seg N a n).Nodup := (h.sublist (List.drop_sublist _ _)).sublist (List.take_sublist _ _)
theorem rngN_pre {b : Nat} {pre post : List Int} {x : Int} (h : rngN 0 b = pre ++ x :: post) : x = (pre.length : Int) ∧ pre.length < b := by
  have hl := congrArg List.length h
  rw [rngN_len, List.length_append, List.length_cons] at hl
  have e := congrArg (fun l : List Int => l[pre.length]?) h
  simp only [List.getElem?_append_right (Nat.le_refl _), Nat.sub_self] at e
  unfold rngN at e
  rw [List.getElem?_map, List.getElem?_range (by omega)] at e
  have e : some (0 + ((pre.length : Nat) : Int)) = some x := e
  exact ⟨by injection e with e; omega, by omega⟩
theorem pick9 (x : Int) : Ok (atI [(9 : Int), 1000000000000] (x % 2)) fun m => 7 ≤ m ∧ m ≤ 1000000000000 :=
  ok_atI (Int.emod_nonneg _ (by omega)) (Int.emod_lt_of_pos _ (by omega)) fun y hy => by
    simp only [List.mem_cons, List.not_mem_nil, or_false] at hy
    rcases hy with rfl | rfl <;> omega
theorem pick30 (x : Int) : Ok (atI [(30 : Int), 1000000000000] (x % 2)) fun m => 7 ≤ m ∧ m ≤ 1000000000000 :=
  ok_atI (Int.emod_nonneg _ (by omega)) (Int.emod_lt_of_pos _ (by omega)) fun y hy => by
    simp only [List.mem_cons, List.not_mem_nil, or_false] at hy
    rcases hy with rfl | rfl <;> omega
structure ClOk (N : List Nm) (cl : List TSII) : Prop where
  len : 1 ≤ cl.length ∧ cl.length ≤ 6
  names : cl.map (·.1) = seg N 1 cl.length
  size : ∀ c ∈ cl, (1 ≤ c.2.1 ∧ c.2.1 ≤ 1000000000000) ∧ 1 ≤ c.2.2 ∧ c.2.2 ≤ 1000000000000
theorem claims_ok (seed m : Int) {N : List Nm} (hN : N.length = 12) : Ok (n_law_claims seed N m) (ClOk N) := by
  unfold n_law_claims
  have h0 := Int.emod_nonneg m (show (6 : Int) ≠ 0 by omega)
  have h1 := Int.emod_lt_of_pos m (show (0 : Int) < 6 by omega)
  refine ok_eq (rng1_eq (by omega) (by omega)) ?_
  refine ok_bind (ok_fold0 (I := fun done cl => cl.length = done.length ∧ cl.map (·.1) = seg N 1 cl.length ∧ ∀ c ∈ cl, (1 ≤ c.2.1 ∧ c.2.1 ≤ 1000000000000) ∧ 1 ≤ c.2.2 ∧ c.2.2 ≤ 1000000000000) ⟨rfl, by unfold seg; simp, by simp⟩ fun pre x post s hp hi => ?_) fun s hs => ?_
  · obtain ⟨hx, hlt⟩ := rngN_pre hp
    refine ok_bind (mixed_ok seed (20 + x) (by omega)) fun n hn => ?_
    refine ok_bind (pick30 _) fun a ha => ?_
    refine ok_bind (coins_ok _ _ a (by omega) ha) fun z hz => ?_
    refine ok_eq (getD_of [] (by omega) (by omega)) ?_
    refine ok_bind (pick9 _) fun b hb => ?_
    refine ok_bind (coins_ok _ _ b (by omega) hb) fun d hd => ?_
    refine ok_eq (push_eq (by omega)) (ok_some ⟨by rw [List.length_append, List.length_append, hi.1]; rfl, ?_, fun c hc => ?_⟩)
    · rw [List.map_append, hi.2.1, List.length_append, List.length_singleton, seg_snoc (by omega), hi.1, show (1 + x).toNat = 1 + pre.length by omega]; rfl
    · rcases List.mem_append.mp hc with hc | hc
      · exact hi.2.2 c hc
      · rw [List.mem_singleton] at hc; subst hc
        exact ⟨⟨hz.1, show z ≤ _ by omega⟩, hd.1, show d ≤ _ by omega⟩
  · have hl := hs.1
    rw [rngN_len] at hl
    exact ok_some ⟨by omega, hs.2.1, hs.2.2⟩
structure PtOk (N : List Nm) (pl : List TSI) : Prop where
  len : pl.length ≤ 3
  names : pl.map (·.1) = seg N 7 pl.length
  mark : ∀ c ∈ pl, 1 ≤ c.2 ∧ c.2 ≤ 1000000000000
theorem eqQ_nil {n : Nat} {d : D} {ds : List D} (hn : n ≤ 64) (h : dOk n (.lst (d :: ds)) = true) : eqQ (.lst (d :: ds)) (.lst []) = some false := by
  obtain ⟨p, h1, h2, h3, h4⟩ := dOk_py n _ h
  obtain ⟨q, g1, g2⟩ := omap (show (toPys (d :: ds)).map PyData.list = some p from h1)
  obtain ⟨x, k1, k2⟩ := obind (show (toPy d).bind (fun p => (toPys ds).map (p :: ·)) = some q from g1)
  obtain ⟨y, k3, k4⟩ := omap k2
  subst k4; subst g2
  have hs : SeqAt.shaped (.list (x :: y)) = true := by
    unfold SeqAt.shaped
    rw [h2, decide_eq_true (by omega)]; rfl
  show eqDeep _ _ = _
  unfold eqDeep
  rw [h1]
  show (if (SeqAt.shaped (.list (x :: y)) && SeqAt.shaped (.list [])) = true then some (PyData.eqv (.list (x :: y)) (.list [])) else none) = _
  rw [hs]
  rfl
theorem eqQ_nn : eqQ (.lst []) (.lst []) = some true := rfl
theorem ok_empty {α : Type} {e : α → D} {xs : List α} {n : Nat} (hn : n ≤ 64) (h : dOk n (eLs e xs) = true) : eqQ (eLs e xs) (eLs e ([] : List α)) = some (decide (xs = [])) := by
  cases xs with
  | nil => exact eqQ_nn
  | cons x xs =>
    rw [decide_eq_false (by simp)]
    exact eqQ_nil hn h
structure GdOk (cs ps : List Nm) (gs : List TSS) : Prop where
  len : gs.length ≤ 3
  mem : ∀ g ∈ gs, g.1 ∈ ps ∧ g.2 ∈ cs
theorem nmap {α : Type} {xs : List (Nm × α)} {x : Nm × α} (h : x ∈ xs) : x.1 ∈ xs.map (·.1) := List.mem_map.mpr ⟨x, h, rfl⟩
theorem minI_eq (a b : Int) : minI a b = min a b := by unfold minI; omega
theorem dOk_pots {pl : List TSI} (h : ∀ n ∈ pl.map (·.1), Sok n) : dOk 4 (eLs eTSI pl) = true := dL fun x hx => dT2 (dS (h _ (nmap hx))) dI
theorem guards_ok (m : Int) (hm : 0 ≤ m) {cl : List TSII} {pl : List TSI} (hc : 1 ≤ cl.length ∧ cl.length ≤ 6) (hp : pl.length ≤ 3) (hs : ∀ n ∈ pl.map (·.1), Sok n) : Ok (n_law_guards m cl pl) (GdOk (cl.map (·.1)) (pl.map (·.1))) := by
  unfold n_law_guards
  refine ok_eq (ok_empty (n := 4) (by omega) (dOk_pots hs)) ?_
  refine ok_bind (Q := GdOk (cl.map (·.1)) (pl.map (·.1))) ?_ fun s hs => ok_some hs
  refine ok_ite (fun hb => ?_) (fun _ => ok_some ⟨by simp, by simp⟩)
  have hne : pl ≠ [] := by simpa using hb
  have hpl : 1 ≤ pl.length := by cases pl with | nil => exact absurd rfl hne | cons => simp
  have h0 := Int.emod_nonneg m (show (4 : Int) ≠ 0 by omega)
  have h1 := Int.emod_lt_of_pos m (show (0 : Int) < 4 by omega)
  rw [minI_eq]
  refine ok_eq (rng1_eq (by omega) (by omega)) ?_
  refine ok_bind (ok_fold0 (I := fun done gs => gs.length = done.length ∧ ∀ g ∈ gs, g.1 ∈ pl.map (·.1) ∧ g.2 ∈ cl.map (·.1)) ⟨rfl, by simp⟩ fun pre x post s hp2 hi => ?_) fun s hs => ?_
  · obtain ⟨hx, hlt⟩ := rngN_pre hp2
    refine ok_bind (ok_mod (by omega)) fun a ha => ?_
    refine ok_bind (ok_atI (R := fun c => c ∈ cl) ha.1 ha.2 fun _ h => h) fun c hc2 => ?_
    refine ok_eq (mulN_l (by omega)) ?_
    refine ok_bind (ok_mod (by omega)) fun b hb => ?_
    refine ok_bind (ok_atI (R := fun c => c ∈ pl) hb.1 hb.2 fun _ h => h) fun p hp3 => ?_
    refine ok_eq (push_eq (by omega)) (ok_some ⟨by rw [List.length_append, List.length_append, hi.1]; rfl, fun g hg => ?_⟩)
    rcases List.mem_append.mp hg with hg | hg
    · exact hi.2 g hg
    · rw [List.mem_singleton] at hg; subst hg; exact ⟨nmap hp3, nmap hc2⟩
  · have hl := hs.1
    rw [rngN_len] at hl
    exact ok_some ⟨by omega, hs.2⟩
structure Kinds (kinds : List Nm) (ok : Rl → Prop) : Prop where
  pay : ∀ c, kinds ≠ [] → ok (.pay c)
  repay : ∀ c, cod "repay" ∈ kinds → ok (.repay c)
  fill : ∀ c, cod "fill" ∈ kinds → ok (.fill c)
  share : ∀ l, cod "share" ∈ kinds → ok (.share l)
  lend : ∀ c x, cod "lend" ∈ kinds → ok (.lend c x)
  back : ∀ c, cod "back" ∈ kinds → ok (.back c)
theorem rule_ok (n : Int) (hn : 0 ≤ n ∧ n < 2147483647) {cl : List TSII} {pl : List TSI} {free os kinds : List Nm} {ok : Rl → Prop} (hk : Kinds kinds ok) (hk0 : 1 ≤ kinds.length) (hc : 1 ≤ cl.length ∧ cl.length ≤ 6) (hp : pl.length ≤ 3) (hs : ∀ n ∈ pl.map (·.1), Sok n) (hfs : ∀ n ∈ free, Sok n)
    (hf : ∀ x ∈ free, x ∈ cl.map (·.1)) (hfn : free.Nodup) (hfl : free.length ≤ 6) (ho : os.length = 2) : Ok (n_law_rule n cl pl free os kinds) fun d => ∃ r : Rl, d = r.d ∧ r.In (cl.map (·.1)) (pl.map (·.1)) os ∧ ok r := by
  unfold n_law_rule
  refine ok_bind (ok_mod (by omega)) fun a ha => ?_
  refine ok_bind (ok_atI (R := fun c => c ∈ kinds) ha.1 ha.2 fun _ h => h) fun k hkm => ?_
  have kne : kinds ≠ [] := by rintro rfl; cases hkm
  refine ok_ite (fun hb => ?_) (fun _ => ?_)
  · rw [Bool.and_eq_true] at hb
    have e1 := of_decide_eq_true hb.1
    have e2 := of_decide_eq_true hb.2
    subst e1
    refine ok_bind (ok_mod (by omega)) fun b hb => ?_
    refine ok_eq (rng1_eq (by omega) (by omega)) ?_
    have hL : (0 : Int) < (free.length : Int) := by omega
    refine ok_eq (compO_eq (g := fun i => free.getD ((n / 9 + i) % (free.length : Int)).toNat []) (by rw [rngN_len]; omega) fun i hi => ?_) ?_
    · rw [modN_eq hL, bindS, getD_of [] (Int.emod_nonneg _ (by omega)) (Int.emod_lt_of_pos _ hL), bindS]
    · refine ok_some ⟨.share _, rfl, ⟨fun c hc2 => ?_, ?_, ?_⟩, hk.share _ hkm⟩
      · obtain ⟨i, hi, rfl⟩ := List.mem_map.mp hc2
        have h0 := Int.emod_nonneg (n / 9 + i) (show (free.length : Int) ≠ 0 by omega)
        have h1 := Int.emod_lt_of_pos (n / 9 + i) hL
        rw [List.getD_eq_getElem?_getD, List.getElem?_eq_getElem (by omega)]
        exact hf _ (List.getElem_mem _)
      · rw [List.Nodup, List.pairwise_map]
        unfold rngN
        rw [List.pairwise_map]
        refine List.Pairwise.imp_of_mem (fun {u v} hu hv hne e => ?_) (List.nodup_range (n := (2 + b).toNat))
        have h1 := List.mem_range.mp hu
        have h2 := List.mem_range.mp hv
        have a0 := Int.emod_nonneg (n / 9 + (0 + (u : Int))) (show (free.length : Int) ≠ 0 by omega)
        have a1 := Int.emod_lt_of_pos (n / 9 + (0 + (u : Int))) hL
        have b0 := Int.emod_nonneg (n / 9 + (0 + (v : Int))) (show (free.length : Int) ≠ 0 by omega)
        have b1 := Int.emod_lt_of_pos (n / 9 + (0 + (v : Int))) hL
        have l1 : ((n / 9 + (0 + (u : Int))) % (free.length : Int)).toNat < free.length := by omega
        have l2 : ((n / 9 + (0 + (v : Int))) % (free.length : Int)).toNat < free.length := by omega
        rw [List.getD_eq_getElem?_getD, List.getD_eq_getElem?_getD, List.getElem?_eq_getElem l1, List.getElem?_eq_getElem l2] at e
        have e := (List.getElem_inj hfn).mp (show free[((n / 9 + (0 + (u : Int))) % (free.length : Int)).toNat] = free[((n / 9 + (0 + (v : Int))) % (free.length : Int)).toNat] from e)
        have e2 : (n / 9 + (0 + (u : Int))) % (free.length : Int) = (n / 9 + (0 + (v : Int))) % (free.length : Int) := by omega
        have A := Int.mul_ediv_add_emod (n / 9 + (0 + (u : Int))) (free.length : Int)
        have B := Int.mul_ediv_add_emod (n / 9 + (0 + (v : Int))) (free.length : Int)
        obtain ⟨q, hq0'⟩ : ∃ q, q = (n / 9 + (0 + (u : Int))) / (free.length : Int) - (n / 9 + (0 + (v : Int))) / (free.length : Int) := ⟨_, rfl⟩
        have hq : (n / 9 + (0 + (u : Int))) - (n / 9 + (0 + (v : Int))) = (free.length : Int) * q := by rw [hq0', Int.mul_sub]; omega
        have hb1 : (u : Int) - v < free.length := by omega
        have hb2 : -(free.length : Int) < (u : Int) - v := by omega
        have hq0 : q = 0 := by
          rcases Int.lt_trichotomy q 0 with h | h | h
          · have : (free.length : Int) * q ≤ (free.length : Int) * (-1) := Int.mul_le_mul_of_nonneg_left (by omega) (by omega)
            omega
          · exact h
          · have : (free.length : Int) * 1 ≤ (free.length : Int) * q := Int.mul_le_mul_of_nonneg_left (by omega) (by omega)
            omega
        subst hq0
        omega
      · rw [List.length_map, rngN_len]; omega
  refine ok_bind (Q := fun b => b = true → k = cod "repay" ∧ free ≠ []) ?_ fun b hb => ?_
  · refine ok_dite (fun h => ?_) (fun _ => ok_some (fun h => nomatch h))
    refine ok_eq (ok_empty (n := 4) (by omega) (dL fun x hx => dS (hfs x hx))) (ok_some fun h2 => ⟨h, by simpa using h2⟩)
  refine ok_ite (fun hb' => ?_) (fun _ => ?_)
  · obtain ⟨rfl, hne⟩ := hb hb'
    have hL : 1 ≤ free.length := by cases free with | nil => exact absurd rfl hne | cons => simp
    refine ok_bind (ok_mod (by omega)) fun i hi => ?_
    refine ok_bind (ok_atI (R := fun c => c ∈ free) hi.1 hi.2 fun _ h => h) fun c hc2 => ?_
    exact ok_some ⟨.repay c, rfl, hf c hc2, hk.repay _ hkm⟩
  refine ok_bind (Q := fun b => b = true → k = cod "fill" ∧ pl ≠ []) ?_ fun b hb => ?_
  · refine ok_dite (fun h => ?_) (fun _ => ok_some (fun h => nomatch h))
    refine ok_eq (ok_empty (n := 4) (by omega) (dOk_pots hs)) (ok_some fun h2 => ⟨h, by simpa using h2⟩)
  refine ok_ite (fun hb' => ?_) (fun _ => ?_)
  · obtain ⟨rfl, hne⟩ := hb hb'
    have hL : 1 ≤ pl.length := by cases pl with | nil => exact absurd rfl hne | cons => simp
    refine ok_bind (ok_mod (by omega)) fun i hi => ?_
    refine ok_bind (ok_atI (R := fun c => c ∈ pl) hi.1 hi.2 fun _ h => h) fun c hc2 => ?_
    exact ok_some ⟨.fill c.1, rfl, nmap hc2, hk.fill _ hkm⟩
  refine ok_dite (fun h => ?_) (fun _ => ?_)
  · subst h
    refine ok_bind (ok_atI (R := fun c => c ∈ os) (Int.emod_nonneg _ (by omega)) (by have := Int.emod_lt_of_pos (n / 9) (show (0 : Int) < 2 by omega); omega) fun _ h => h) fun o ho2 => ?_
    refine ok_bind (pick9 _) fun b hb => ?_
    refine ok_bind (coins_ok _ _ b (by omega) hb) fun x hx => ?_
    exact ok_some ⟨.lend o x, rfl, ⟨ho2, hx.1, by omega⟩, hk.lend _ _ hkm⟩
  refine ok_dite (fun h => ?_) (fun _ => ?_)
  · subst h
    refine ok_bind (ok_atI (R := fun c => c ∈ os) (Int.emod_nonneg _ (by omega)) (by have := Int.emod_lt_of_pos (n / 9) (show (0 : Int) < 2 by omega); omega) fun _ h => h) fun o ho2 => ?_
    exact ok_some ⟨.back o, rfl, ho2, hk.back _ hkm⟩
  refine ok_bind (ok_mod (by omega)) fun i hi => ?_
  refine ok_bind (ok_atI (R := fun c => c ∈ cl) hi.1 hi.2 fun _ h => h) fun c hc2 => ?_
  exact ok_some ⟨.pay c.1, rfl, nmap hc2, hk.pay _ kne⟩
end FA
namespace FA
open PySem PySem.Spec PyProof.Rows L2 DL FAN
open DK (getD_of cutTake Rl TO S upf lk_S putK_S mkK_S S_of S_len S_keys)
def Low (n : Nm) : Prop := ∀ c ∈ n, 97 ≤ c ∧ c ≤ 122
theorem Low.sok {n : Nm} (h : Low n) : Sok n := fun c hc => by have := h c hc; omega
def L25 : List Nat := cod "abcdefghijklmnpqrstuvwxyz"
def L20 : List Nat := cod "bcdfghjklmnpqrstvwxz"
theorem L25_low : L25.length = 25 ∧ ∀ c ∈ L25, 97 ≤ c ∧ c ≤ 122 := by decide +kernel
theorem L20_low : L20.length = 20 ∧ ∀ c ∈ L20, 97 ≤ c ∧ c ≤ 122 := by decide +kernel
theorem L20_inj : ∀ i < 20, ∀ j < 20, L20.getD i 0 = L20.getD j 0 → i = j := by decide +kernel
theorem ixS_ok {l : List Nat} {i : Int} (h : l.length ≤ 1000) (h0 : 0 ≤ i) (h1 : i < l.length) : ixS l i = some [l.getD i.toNat 0] := by
  unfold ixS
  rw [if_pos (by omega), getD_of 0 h0 h1]; rfl
theorem getD_mem {α : Type} {l : List α} {i : Nat} {d : α} (h : i < l.length) : l.getD i d ∈ l := by
  rw [List.getD_eq_getElem?_getD, List.getElem?_eq_getElem h]
  exact List.getElem_mem h
theorem joinL_nil : ∀ ls : List (List Nat), TL.joinL [] ls = ls.flatten
  | [] => rfl
  | [l] => by simp [TL.joinL]
  | l :: m :: ls => by
    have := joinL_nil (m :: ls)
    show l ++ ([] ++ TL.joinL [] (m :: ls)) = _
    rw [this]; simp
theorem flat1 : ∀ l : List Nat, (l.map fun c => [c]).flatten = l
  | [] => rfl
  | c :: l => by rw [List.map_cons, List.flatten_cons, flat1 l]; rfl
theorem len1 : ∀ l : List Nat, ((l.map fun c => [c]).map (·.length)).sum = l.length
  | [] => rfl
  | c :: l => by rw [List.map_cons, List.map_cons, List.sum_cons, len1 l, List.length_cons]; simp; omega
theorem join1 {l : List Nat} (h : l.length ≤ 1000) : joinN (cod "") (l.map fun c => [c]) = some l := by
  unfold joinN
  rw [len1, if_pos (by show l.length + (l.map _).length * 0 ≤ _; omega), show (cod "") = ([] : List Nat) from by decide, joinL_nil, flat1]
def nameF (b : Nat) (size at' at2 : Nat) (f : Int) (s2 : Nat) (k : Int) : Nm := ((List.replicate size b).set at' (L20.getD ((f + 3 * k) % 20).toNat 0)).set at2 s2
theorem nameF_low {b size at' at2 : Nat} {f : Int} {s2 : Nat} {k : Int} (hb : 97 ≤ b ∧ b ≤ 122) (h2 : 97 ≤ s2 ∧ s2 ≤ 122) : Low (nameF b size at' at2 f s2 k) := fun c hc => by
  unfold nameF at hc
  rcases List.mem_or_eq_of_mem_set hc with hc | rfl
  · rcases List.mem_or_eq_of_mem_set hc with hc | rfl
    · rw [(List.mem_replicate.mp hc).2]; exact hb
    · exact L20_low.2 _ (getD_mem (by rw [L20_low.1]; omega))
  · exact h2
theorem nameF_inj {b size at' at2 : Nat} {f : Int} {s2 : Nat} {i j : Int} (h1 : at' < size) (h2 : at' ≠ at2) (hi : 0 ≤ i ∧ i < 20) (hj : 0 ≤ j ∧ j < 20) (h : nameF b size at' at2 f s2 i = nameF b size at' at2 f s2 j) : i = j := by
  have e := congrArg (fun l : Nm => l[at']?) h
  have hl : at' < (List.replicate size b).length := by rw [List.length_replicate]; exact h1
  simp only [nameF, List.getElem?_set_ne (Ne.symm h2), List.getElem?_set_self hl] at e
  have e := L20_inj _ (by omega) _ (by omega) (Option.some.inj e)
  omega
theorem names_ok (c many : Int) (hm : 0 ≤ many ∧ many ≤ 20) : Ok (n_law_names c many) fun N => N.length = many.toNat ∧ N.Nodup ∧ ∀ n ∈ N, Low n := by
  unfold n_law_names
  refine ok_bind (mixed_ok c 3 (by omega)) fun m hm2 => ?_
  refine ok_eq (ixS_ok (l := L25) (by rw [L25_low.1]; omega) (Int.emod_nonneg _ (by omega)) (by rw [L25_low.1]; exact Int.emod_lt_of_pos _ (by omega))) ?_
  have hb : 97 ≤ L25.getD (m % 25).toNat 0 ∧ L25.getD (m % 25).toNat 0 ≤ 122 := L25_low.2 _ (getD_mem (by rw [L25_low.1]; omega))
  generalize L25.getD (m % 25).toNat 0 = b at hb
  refine ok_ite (fun _ => ?_) (fun _ => ?_)
  · refine ok_eq (rng1_eq (by omega) (by omega)) ?_
    refine ok_eq (compO_eq (g := fun k => List.replicate (many - k).toNat b) (by rw [rngN_len]; omega) fun k hk => ?_) ?_
    · have := rngN_mem hk
      unfold repN
      rw [if_pos ⟨by omega, by omega, by simp; omega⟩, bindS]
      congr 1
      induction (many - k).toNat with
      | zero => rfl
      | succ n ih => rw [List.replicate_succ, List.flatten_cons, ih, List.replicate_succ]; rfl
    · refine ok_some ⟨by rw [List.length_map, rngN_len], ?_, fun n hn => ?_⟩
      · rw [List.Nodup, List.pairwise_map]
        unfold rngN
        rw [List.pairwise_map]
        refine List.Pairwise.imp_of_mem (fun {u v} hu hv hne e => ?_) (List.nodup_range (n := many.toNat))
        have h1 := List.mem_range.mp hu
        have h2 := List.mem_range.mp hv
        have := congrArg List.length e
        rw [List.length_replicate, List.length_replicate] at this
        omega
      · obtain ⟨k, hk, rfl⟩ := List.mem_map.mp hn
        intro c hc
        rw [(List.mem_replicate.mp hc).2]; exact hb
  · have z0 := Int.emod_nonneg (m / 75) (show (7 : Int) ≠ 0 by omega)
    have z1 := Int.emod_lt_of_pos (m / 75) (show (0 : Int) < 7 by omega)
    obtain ⟨size, hsz⟩ : ∃ size : Nat, 2 + m / 75 % 7 = (size : Int) := ⟨(2 + m / 75 % 7).toNat, by omega⟩
    rw [hsz]
    have hs2 : 2 ≤ size ∧ size ≤ 8 := by omega
    refine ok_eq (modN_eq (by omega)) ?_
    have t0 := Int.emod_nonneg (m / 525) (show (size : Int) ≠ 0 by omega)
    have t1 := Int.emod_lt_of_pos (m / 525) (show (0 : Int) < size by omega)
    obtain ⟨at', hat⟩ : ∃ a : Nat, m / 525 % (size : Int) = (a : Int) := ⟨(m / 525 % (size : Int)).toNat, by omega⟩
    rw [hat] at t0 t1 ⊢
    obtain ⟨at2, hat2⟩ : ∃ a : Nat, ((at' : Int) + 1) % (size : Int) = (a : Int) := ⟨(((at' : Int) + 1) % (size : Int)).toNat, by have := Int.emod_nonneg ((at' : Int) + 1) (show (size : Int) ≠ 0 by omega); omega⟩
    have u1 := Int.emod_lt_of_pos ((at' : Int) + 1) (show (0 : Int) < size by omega)
    have hne : at' ≠ at2 := by
      intro e
      subst e
      by_cases h : (at' : Int) + 1 < size
      · rw [Int.emod_eq_of_lt (by omega) h] at hat2; omega
      · have : (at' : Int) + 1 = size := by omega
        rw [this, Int.emod_self] at hat2; omega
    refine ok_eq (rng1_eq (by omega) (by omega)) ?_
    have g2 : ∀ k : Int, 0 ≤ k ∧ k < 20 → (m / 84000 + k / 20) % 20 = m / 84000 % 20 := fun k hk => by rw [show k / 20 = 0 by omega, Int.add_zero]
    obtain ⟨s2, hs2'⟩ : ∃ s, s = L20.getD (m / 84000 % 20).toNat 0 := ⟨_, rfl⟩
    have hsl : 97 ≤ s2 ∧ s2 ≤ 122 := by
      subst hs2'
      exact L20_low.2 _ (getD_mem (by rw [L20_low.1]; omega))
    refine ok_bind (ok_fold0 (I := fun done s => s = done.map (nameF b size at' at2 (m / 4200) s2)) rfl fun pre x post s hp hi => ?_) fun s hs => ?_
    · obtain ⟨hx, hlt⟩ := rngN_pre hp
      subst hi
      refine ok_eq (rng1_eq (by omega) (by omega)) ?_
      refine ok_eq (compT_eq (by rw [rngN_len]; omega)) ?_
      have e0 : (rngN 0 (size : Int).toNat).map (fun (_ : Int) => [b]) = (List.replicate size b).map fun c => [c] := by
        rw [List.map_replicate]
        refine List.eq_replicate_iff.mpr ⟨by rw [List.length_map, rngN_len]; omega, fun y hy => ?_⟩
        obtain ⟨_, _, rfl⟩ := List.mem_map.mp hy; rfl
      rw [e0]
      refine ok_eq (ixS_ok (l := L20) (by rw [L20_low.1]; omega) (Int.emod_nonneg _ (by omega)) (by rw [L20_low.1]; exact Int.emod_lt_of_pos _ (by omega))) ?_
      have putS : ∀ (l : List Nat) (i c : Nat), i < l.length → putI (l.map fun c => [c]) (i : Int) [c] = some ((l.set i c).map fun c => [c]) := fun l i c hi => by
        unfold putI
        rw [List.length_map, show ixN l.length (i : Int) = some i from by unfold ixN; rw [if_pos (by omega), if_pos (by omega)]; rfl]
        show some _ = _
        rw [List.map_set]
      refine ok_eq (putS _ at' _ (by rw [List.length_replicate]; omega)) ?_
      rw [g2 x (by omega)]
      refine ok_eq (ixS_ok (l := L20) (by rw [L20_low.1]; omega) (Int.emod_nonneg _ (by omega)) (by rw [L20_low.1]; exact Int.emod_lt_of_pos _ (by omega))) ?_
      rw [← hs2']
      refine ok_eq (modN_eq (by omega)) ?_
      rw [hat2]
      refine ok_eq (putS _ at2 _ (by rw [List.length_set, List.length_replicate]; omega)) ?_
      refine ok_eq (join1 (by rw [List.length_set, List.length_set, List.length_replicate]; omega)) ?_
      exact ok_eq (push_eq (by rw [List.length_map]; omega)) (ok_some (by rw [List.map_append]; rfl))
    · subst hs
      refine ok_some ⟨by rw [List.length_map, rngN_len], ?_, fun n hn => ?_⟩
      · rw [List.Nodup, List.pairwise_map]
        unfold rngN
        rw [List.pairwise_map]
        refine List.Pairwise.imp_of_mem (fun {u v} hu hv hne2 e => ?_) (List.nodup_range (n := many.toNat))
        have h1 := List.mem_range.mp hu
        have h2 := List.mem_range.mp hv
        have := nameF_inj (by omega) hne (by omega) (by omega) e
        omega
      · obtain ⟨k, hk, rfl⟩ := List.mem_map.mp hn
        exact nameF_low hb hsl
end FA
namespace FA
open PySem PySem.Spec PyProof.Rows L2 DL FAN
open DK (getD_of cutTake Rl S upf lk_S putK_S mkK_S S_of S_len S_keys)
structure OrOk (cs ps os : List Nm) (ok : Rl → Prop) (o : DK.TO) : Prop where
  parts : o.2.1.length ≤ 6 ∧ ∀ p ∈ o.2.1, p.1 ∈ cs ∧ 1 ≤ p.2 ∧ p.2 ≤ 10
  rules : ∃ (rs : List Rl) (c : Nm), o.2.2 = rs ++ [Rl.rest c] ∧ c ∈ cs ∧ rs.length ≤ 8 ∧ ∀ r ∈ rs, r.In cs ps os ∧ ok r
theorem eqQ_empty_S {xs : List Nm} (h : ∀ x ∈ xs, Sok x) : eqQ (eLs eS xs) (eLs eS ([] : List Nm)) = some (decide (xs = [])) := ok_empty (n := 4) (by omega) (dL fun x hx => dS (h x hx))
theorem order_ok (ns : List Int) (seed at' : Int) (hat : 0 ≤ at' ∧ at' ≤ 50000) (nm : Nm) {cl : List TSII} {pl : List TSI} {free os kinds : List Nm} {ok : Rl → Prop} (hk : Kinds kinds ok) (hks : ∀ k ∈ kinds, Sok k) (hc : 1 ≤ cl.length ∧ cl.length ≤ 6) (hp : pl.length ≤ 3) (hs : ∀ n ∈ pl.map (·.1), Sok n) (hfs : ∀ n ∈ free, Sok n)
    (hf : ∀ x ∈ free, x ∈ cl.map (·.1)) (hfn : free.Nodup) (hfl : free.length ≤ 6) (ho : os.length = 2) :
    Ok (n_law_order ns seed nm at' cl pl free os kinds) fun r => ∃ o : DK.TO, r = o.d ∧ o.1 = nm ∧ OrOk (cl.map (·.1)) (pl.map (·.1)) os ok o ∧ (kinds = [] → ∃ c, o.2.2 = [Rl.rest c]) := by
  unfold n_law_order
  refine ok_bind (mixed_ok seed at' (by omega)) fun m hm => ?_
  refine ok_bind (ok_atI (R := fun y => 0 ≤ y ∧ y ≤ 6) (Int.emod_nonneg _ (by omega)) (by have := Int.emod_lt_of_pos m (show (0 : Int) < 6 by omega); show _ < (6 : Int); omega) fun y hy => by
    simp only [List.mem_cons, List.not_mem_nil, or_false] at hy; omega) fun q hq => ?_
  rw [minI_eq]
  refine ok_eq (rng1_eq (by omega) (by omega)) ?_
  refine ok_bind (ok_fold0 (I := fun done xs => xs.length = done.length ∧ ∀ p ∈ xs, p.1 ∈ cl.map (·.1) ∧ 1 ≤ p.2 ∧ p.2 ≤ 10) ⟨rfl, by simp⟩ fun pre x post s hp2 hi => ?_) fun parts hparts => ?_
  · obtain ⟨hx, hlt⟩ := rngN_pre hp2
    refine ok_bind (mixed_ok seed (at' + 40 + x) (by omega)) fun n hn => ?_
    refine ok_bind (ok_atI (R := fun y => 2 ≤ y ∧ y ≤ 10) (Int.emod_nonneg _ (by omega)) (by have := Int.emod_lt_of_pos (m / 6) (show (0 : Int) < 3 by omega); show _ < (3 : Int); omega) fun y hy => by
      simp only [List.mem_cons, List.not_mem_nil, or_false] at hy; omega) fun t ht => ?_
    refine ok_bind (ok_mod (by omega)) fun u hu => ?_
    refine ok_bind (ok_mod (by omega)) fun v hv => ?_
    refine ok_bind (ok_atI (R := fun c => c ∈ cl) hv.1 hv.2 fun _ h => h) fun c hc2 => ?_
    refine ok_eq (push_eq (by omega)) (ok_some ⟨by rw [List.length_append, List.length_append, hi.1]; rfl, fun p hp => ?_⟩)
    rcases List.mem_append.mp hp with hp | hp
    · exact hi.2 p hp
    · rw [List.mem_singleton.mp hp]; exact ⟨nmap hc2, by show 1 ≤ 1 + u; omega, by show 1 + u ≤ 10; omega⟩
  have hpl := hparts.1
  rw [rngN_len] at hpl
  refine ok_eq (eqQ_empty_S hks) ?_
  refine ok_bind (Q := fun ds => ∃ rs : List Rl, ds = rs.map Rl.d ∧ rs.length ≤ 8 ∧ (∀ r ∈ rs, r.In (cl.map (·.1)) (pl.map (·.1)) os ∧ ok r) ∧ (kinds = [] → rs = [])) ?_ fun ds hds => ?_
  · refine ok_ite (fun hb => ?_) (fun _ => ok_some ⟨[], rfl, by simp, by simp, fun _ => rfl⟩)
    have hne : kinds ≠ [] := by simpa using hb
    have hkl : 1 ≤ kinds.length := by cases kinds with | nil => exact absurd rfl hne | cons => simp
    refine ok_bind (ok_atI (R := fun y => 0 ≤ y ∧ y ≤ 8) (Int.emod_nonneg _ (by omega)) (by have := Int.emod_lt_of_pos (m / 864) (show (0 : Int) < 4 by omega); show _ < (4 : Int); omega) fun y hy => by
      simp only [List.mem_cons, List.not_mem_nil, or_false] at hy; omega) fun q hq => ?_
    refine ok_eq (rng1_eq (by omega) (by omega)) ?_
    refine ok_bind (ok_fold0 (I := fun done ds => ∃ rs : List Rl, ds = rs.map Rl.d ∧ rs.length = done.length ∧ ∀ r ∈ rs, r.In (cl.map (·.1)) (pl.map (·.1)) os ∧ ok r) ⟨[], rfl, rfl, by simp⟩ fun pre x post s hp2 hi => ?_) fun s hs2 => ?_
    · obtain ⟨hx, hlt⟩ := rngN_pre hp2
      obtain ⟨rs, rfl, h1, h2⟩ := hi
      refine ok_bind (Q := fun _ => True) ?_ fun c _ => ?_
      · unfold n_law_cell
        refine ok_dite (fun h => ?_) (fun _ => ok_some trivial)
        exact ok_bind (ok_atI (R := fun _ => True) (by omega) h fun _ _ => trivial) fun _ _ => ok_some trivial
      refine ok_bind (mixed_ok (seed + c) (at' + x) (by omega)) fun n hn => ?_
      refine ok_bind (rule_ok n hn hk hkl hc hp hs hfs hf hfn hfl ho) fun d hd => ?_
      obtain ⟨r, rfl, hr, hr2⟩ := hd
      refine ok_eq (push_eq (by rw [List.length_map]; omega)) (ok_some ⟨rs ++ [r], by simp, by simp [h1], fun z hz => ?_⟩)
      rcases List.mem_append.mp hz with hz | hz
      · exact h2 z hz
      · rw [List.mem_singleton.mp hz]; exact ⟨hr, hr2⟩
    · obtain ⟨rs, rfl, h1, h2⟩ := hs2
      rw [rngN_len] at h1
      exact ok_some ⟨rs, rfl, by omega, h2, fun h => absurd h hne⟩
  obtain ⟨rs, rfl, h1, h2, h3⟩ := hds
  refine ok_bind (ok_mod (by omega)) fun v hv => ?_
  refine ok_bind (ok_atI (R := fun c => c ∈ cl) hv.1 hv.2 fun _ h => h) fun c hc2 => ?_
  refine ok_eq (push_eq (by rw [List.length_map]; omega)) (ok_some ⟨(nm, parts, rs ++ [Rl.rest c.1]), ?_, rfl, ⟨⟨by show parts.length ≤ 6; omega, hparts.2⟩, rs, c.1, rfl, nmap hc2, h1, h2⟩, fun h => ⟨c.1, ?_⟩⟩)
  · show _ = (nm, parts, (rs ++ [Rl.rest c.1]).map Rl.d)
    rw [List.map_append]; rfl
  · show rs ++ _ = _
    rw [h3 h]; rfl
abbrev TP : Type := Nm × (List TSII) × (List TSI) × (List Nm) × (List DK.TO) × (List TSS)
def TP.d (p : TP) : R3 := (p.1, p.2.1, p.2.2.1, p.2.2.2.1, p.2.2.2.2.1.map DK.TO.d, [], p.2.2.2.2.2)
theorem rl_clean (r : Rl) : cleanD r.d = true := by
  cases r with
  | share l => exact cd_t (cds_c cd_s (cds_c (cd_q (fun _ => cd_s) l) cds_n))
  | lend o x => exact cd_t (cds_c cd_s (cds_c cd_s (cds_c cd_i cds_n)))
  | _ => exact cd_t (cds_c cd_s (cds_c cd_s cds_n))
theorem chk_order (o : DK.TO) : chkV (.tup [.p (eS o.d.1), oL eTSI o.d.2.1, oL eD o.d.2.2]) = some 0 := by
  unfold chkV
  rw [if_pos]
  refine cv_t (cvs_c (cv_p cd_s) (cvs_c (cv_o (fun _ => cd_t (cds_c cd_s (cds_c cd_i cds_n))) _) (cvs_c ?_ cvs_n)))
  have e : oL eD o.d.2.2 = oL Rl.d o.2.2 := by
    show T.lst (((o.2.2.map Rl.d).map eD).map T.p) = T.lst ((o.2.2.map Rl.d).map T.p)
    rw [show ((o.2.2.map Rl.d).map eD) = o.2.2.map Rl.d from List.map_id _]
  rw [e]
  exact cv_o rl_clean _
structure PlOk (N : List Nm) (ok : Rl → Prop) (t : TP) : Prop where
  nlen : N.length = 12
  nnd : N.Nodup
  low : ∀ n ∈ N, Low n
  nm : t.1 = N.getD 0 []
  cl : ClOk N t.2.1
  pt : PtOk N t.2.2.1
  eat : ∃ k, t.2.2.2.1 = (t.2.1.take k).map (·.1)
  olen : t.2.2.2.2.1.length = 2
  ond : (t.2.2.2.2.1.map (·.1)).Nodup
  osok : ∀ n ∈ t.2.2.2.2.1.map (·.1), Low n
  ord : ∀ o ∈ t.2.2.2.2.1, OrOk (t.2.1.map (·.1)) (t.2.2.1.map (·.1)) (N.drop 10) ok o
  gd : GdOk (t.2.1.map (·.1)) (t.2.2.1.map (·.1)) t.2.2.2.2.2
theorem cut10 {N : List Nm} (h : N.length = 12) : cutA N (some 10) none = N.drop 10 := by
  unfold cutA
  rw [show HT.sIx N.length N.length none = N.length from rfl, sIx_i (by omega), Nat.min_eq_left (by show Int.toNat 10 ≤ _; rw [h]; decide)]
  rw [List.take_of_length_le (by rw [List.length_drop]; exact Nat.le_refl _)]; rfl
theorem pool_ok (ns : List Int) (seed : Int) {kinds : List Nm} {ok : Rl → Prop} (hk : Kinds kinds ok) (hks : ∀ k ∈ kinds, Sok k) :
    Ok (n_law_pool ns seed kinds) fun p => ∃ (t : TP) (N : List Nm), p = t.d ∧ PlOk N ok t ∧ n_law_names seed 12 = some N ∧ (kinds = [] → ∀ o ∈ t.2.2.2.2.1, ∃ c, o.2.2 = [Rl.rest c]) := by
  unfold n_law_pool
  obtain ⟨N, hN, h12, hnd, hlow⟩ := names_ok seed 12 (by omega)
  have h12 : N.length = 12 := h12
  rw [hN, bindS]
  refine ok_bind (mixed_ok seed 1 (by omega)) fun m hm => ?_
  refine ok_bind (claims_ok seed m h12) fun cl hcl => ?_
  refine ok_eq (rng1_eq (by omega) (by omega)) ?_
  refine ok_bind (ok_fold0 (I := fun done pl => pl.length = done.length ∧ pl.map (·.1) = seg N 7 pl.length ∧ ∀ c ∈ pl, 1 ≤ c.2 ∧ c.2 ≤ 1000000000000) ⟨rfl, by unfold seg; simp, by simp⟩ fun pre x post s hp hi => ?_) fun pl hpl => ?_
  · obtain ⟨hx, hlt⟩ := rngN_pre hp
    refine ok_eq (divN_eq (by omega) (by omega)) ?_
    refine ok_bind (pick9 _) fun b hb => ?_
    refine ok_bind (coins_ok _ _ b (by omega) hb) fun z hz => ?_
    refine ok_eq (getD_of [] (by omega) (by omega)) ?_
    refine ok_eq (push_eq (by omega)) (ok_some ⟨by rw [List.length_append, List.length_append, hi.1]; rfl, ?_, fun c hc => ?_⟩)
    · rw [List.map_append, hi.2.1, List.length_append, List.length_singleton, seg_snoc (by omega), hi.1, show (7 + x).toNat = 7 + pre.length by omega]; rfl
    · rcases List.mem_append.mp hc with hc | hc
      · exact hi.2.2 c hc
      · rw [List.mem_singleton] at hc; subst hc
        exact ⟨hz.1, show z ≤ _ by omega⟩
  have hl := hpl.1
  rw [rngN_len] at hl
  have hPt : PtOk N pl := ⟨by omega, hpl.2.1, hpl.2.2⟩
  have sP : ∀ n ∈ pl.map (·.1), Sok n := fun n hn => by
    rw [hPt.names] at hn
    exact (hlow n (seg_mem hn)).sok
  have sC : ∀ n ∈ cl.map (·.1), Sok n := fun n hn => by
    rw [hcl.names] at hn
    exact (hlow n (seg_mem hn)).sok
  have cN : (cl.map (·.1)).Nodup := by rw [hcl.names]; exact seg_nodup hnd
  refine ok_bind (guards_ok (m / 288) (by omega) hcl.len hPt.len sP) fun gs hgs => ?_
  have hgl := hgs.len
  refine ok_eq (compT_eq (by omega)) ?_
  have hcl6 := hcl.len
  refine ok_eq (compTF_eq (by omega)) ?_
  refine ok_bind (names_ok (seed + 1) 2 (by omega)) fun M hM => ?_
  obtain ⟨hM2, hMnd, hMlow⟩ := hM
  have hM2 : M.length = 2 := hM2
  refine ok_eq (rng1_eq (by omega) (by omega)) ?_
  rw [cut10 h12]
  obtain ⟨free, hfree⟩ : ∃ free, free = (cl.filter fun x18 => !decide (x18.1 ∈ gs.map fun x16 => x16.2)).map fun x18 => x18.1 := ⟨_, rfl⟩
  rw [← hfree]
  have hfsub : free.Sublist (cl.map (·.1)) := by rw [hfree]; exact (List.filter_sublist).map _
  have hfl := hfsub.length_le
  rw [List.length_map] at hfl
  refine ok_bind (ok_fold0 (I := fun done xs => ∃ ts : List DK.TO, xs = ts.map DK.TO.d ∧ ts.length = done.length ∧ ts.map (·.1) = M.take ts.length ∧ (∀ o ∈ ts, OrOk (cl.map (·.1)) (pl.map (·.1)) (N.drop 10) ok o) ∧ (kinds = [] → ∀ o ∈ ts, ∃ c, o.2.2 = [Rl.rest c])) ⟨[], rfl, rfl, rfl, by simp, by simp⟩ fun pre x post s hp hi => ?_) fun ors hors => ?_
  · obtain ⟨hx, hlt⟩ := rngN_pre hp
    have hlt : pre.length < 2 := hlt
    obtain ⟨ts, rfl, h1, h2, h3, h4⟩ := hi
    refine ok_eq (getD_of [] (by omega) (by omega)) ?_
    refine ok_bind (order_ok ns seed (3 + 9 * x) (by omega) (M.getD x.toNat []) hk hks hcl.len hPt.len sP (fun n hn => sC n (hfsub.subset hn)) (fun n hn => hfsub.subset hn) (cN.sublist hfsub) (by omega) (by rw [List.length_drop]; omega)) fun o ho => ?_
    obtain ⟨o, rfl, e1, e2, e3⟩ := ho
    refine ok_eq (chk_order o) ?_
    refine ok_eq (push_eq (by rw [List.length_map]; omega)) (ok_some ⟨ts ++ [o], by simp, by simp [h1], ?_, fun c hc => ?_, fun hh c hc => ?_⟩)
    · rw [List.map_append, h2, List.length_append, List.length_singleton, List.take_add_one, List.map_singleton, e1, show x.toNat = ts.length by omega, List.getD_eq_getElem?_getD, List.getElem?_eq_getElem (by omega)]; rfl
    · rcases List.mem_append.mp hc with hc | hc
      · exact h3 c hc
      · rw [List.mem_singleton.mp hc]; exact e2
    · rcases List.mem_append.mp hc with hc | hc
      · exact h4 hh c hc
      · rw [List.mem_singleton.mp hc]; exact e3 hh
  obtain ⟨ts, rfl, h1, h2, h3, h4⟩ := hors
  have h1 : ts.length = 2 := h1
  rw [cutTake (by omega)]
  refine ok_eq (compT_eq (by rw [List.length_take]; omega)) ?_
  refine ok_eq (getD_of [] (by omega) (by omega)) ?_
  refine ok_some ⟨(N.getD 0 [], cl, pl, (cl.take (m / 7 % 7).toNat).map (·.1), ts, gs), N, rfl, ⟨h12, hnd, hlow, rfl, hcl, hPt, ⟨_, rfl⟩, h1, ?_, fun n hn => ?_, h3, hgs⟩, rfl, h4⟩
  · show (ts.map (·.1)).Nodup
    rw [h2]
    exact hMnd.sublist (List.take_sublist _ _)
  · have hn : n ∈ ts.map (·.1) := hn
    rw [h2] at hn
    exact hMlow n (List.mem_of_mem_take hn)
end FA
namespace FA
open PySem PySem.Spec PyProof.Rows L2 DL FAN
open DK (getD_of cutTake Rl S upf lk_S putK_S mkK_S S_of S_len S_keys)
structure BkOk (t : TP) (b : R4) : Prop where
  sizes : b.1.map (·.1) = t.2.1.map (·.1)
  owed : b.2.1.map (·.1) = t.2.1.map (·.1)
  runs : b.2.2.1.map (·.1) = t.2.1.map (·.1)
  levels : b.2.2.2.1.map (·.1) = t.2.2.1.map (·.1)
  szb : ∀ x ∈ b.1, 0 ≤ x.2 ∧ x.2 ≤ 1000000000000
  owb : ∀ x ∈ b.2.1, 0 ≤ x.2 ∧ x.2 ≤ 30000000000000
  rnb : ∀ x ∈ b.2.2.1, 0 ≤ x.2
  lvb : ∀ x ∈ t.2.2.1, ∃ l, (x.1, l) ∈ b.2.2.2.1 ∧ 0 ≤ l ∧ l ≤ x.2
structure LnOk (ow : Nm) (os : List Nm) (l : List TSSI) : Prop where
  len : l.length ≤ 4
  mem : ∀ x ∈ l, ((x.1 = ow ∧ x.2.1 ∈ os) ∨ (x.2.1 = ow ∧ x.1 ∈ os)) ∧ 1 ≤ x.2.2 ∧ x.2.2 ≤ 1000000000000
  nd : (l.map fun x => (x.1, x.2.1)).Nodup
theorem sum_bd {B : Int} : ∀ {xs : List Int}, (∀ x ∈ xs, 0 ≤ x ∧ x ≤ B) → 0 ≤ xs.sum ∧ xs.sum ≤ B * xs.length
  | [], _ => by simp
  | x :: xs, h => by
    have h1 := h x (by simp)
    have h2 := sum_bd fun y hy => h y (List.mem_cons_of_mem x hy)
    rw [List.sum_cons, List.length_cons]
    have : B * ((xs.length + 1 : Nat) : Int) = B * xs.length + B := by rw [Int.natCast_add, Int.mul_add]; simp
    omega
end FA
namespace FA
open PySem PySem.Spec PyProof.Rows L2 DL FAN
open DK (getD_of cutTake Rl S upf lk_S putK_S mkK_S S_of S_len S_keys)
def bump : Nat → List Int → List Int
  | 0, xs => xs
  | _, [] => []
  | n + 1, x :: xs => (x + 1) :: bump n xs
def asks (ps : List TSI) (came : Int) : List Int :=
  if 10 < (ps.map fun p => p.2).sum then ps.map fun p => (came * p.2 + 9) / 10
  else bump ((came * (ps.map fun p => p.2).sum / 10) - (ps.map fun p => came * p.2 / 10).sum).toNat (ps.map fun p => came * p.2 / 10)
def over (ps : List TSI) (came : Int) : Int := if 10 < (ps.map fun p => p.2).sum then (asks ps came).sum - came else 0
structure PsOk (ps : List TSI) : Prop where
  len : ps.length ≤ 6
  t : ∀ p ∈ ps, 1 ≤ p.2 ∧ p.2 ≤ 10
theorem PsOk.sum {ps : List TSI} (h : PsOk ps) : 0 ≤ (ps.map fun p => p.2).sum ∧ (ps.map fun p => p.2).sum ≤ 60 := by
  have h1 := h.len
  have := sum_bd (xs := ps.map fun p => p.2) (B := 10) fun x hx => by obtain ⟨y, hy, rfl⟩ := List.mem_map.mp hx; have := h.t y hy; omega
  rw [List.length_map] at this
  omega
def PE : Nat → List TSI → List Int → Int → List TISSII × Int
  | k, p :: ps, a :: as, cash => (((k : Int), cod "part", p.1, a, minI a cash) :: (PE (k + 1) ps as (cash - minI a cash)).1, (PE (k + 1) ps as (cash - minI a cash)).2)
  | _, _, _, cash => ([], cash)
def partRows (ps : List TSI) (came cash : Int) : List TISSII := (PE 0 ps (asks ps came) cash).1 ++ (if 0 < over ps came then [(-1, cod "twice", cod "", (asks ps came).sum, came)] else [])
def partCash (ps : List TSI) (came cash : Int) : Int := (PE 0 ps (asks ps came) cash).2
end FA
namespace FA
open PySem PySem.Spec PyProof.Rows L2 DL FAN
open DK (getD_of cutTake Rl S upf lk_S putK_S mkK_S S_of S_len S_keys)
structure St where
  cash : Int
  sz : Nm → Int
  ow : Nm → Int
  lv : Nm → Int
  ln : TSS → Int
  rows : List TISSII
  mv : List (Nm × Nm × Int)
  sv : List Nm
def served (sv l : List Nm) (need got : Int) : List Nm := if 0 < need ∧ got = need then sv ++ l else sv
def shR (k : Int) : List Nm → List Int → List Int → List TISSII
  | c :: cs, n :: ns, g :: gs => (k, cod "share", c, n, g) :: shR k cs ns gs
  | _, _, _ => []
def shO : (Nm → Int) → List Nm → List Int → (Nm → Int)
  | ow, c :: cs, g :: gs => shO (upf ow c (ow c - g)) cs gs
  | ow, _, _ => ow
def oddg : List Int → List Int → Int → List Int × Int
  | n :: ns, g :: gs, o => if 0 < o ∧ g < n then ((g + 1) :: (oddg ns gs (o - 1)).1, (oddg ns gs (o - 1)).2) else (g :: (oddg ns gs o).1, (oddg ns gs o).2)
  | _, gs, o => (gs, o)
def gots (needs : List Int) (cash : Int) : List Int :=
  if needs.sum ≤ cash then needs else (oddg needs (needs.map fun n => cash * n / needs.sum) (cash - (needs.map fun n => cash * n / needs.sum).sum)).1
def lendStep (own : Nm) (k : Int) (s : St) (o : Nm) (need : Int) (got : Int) : St :=
  { s with cash := s.cash - got, ln := upf s.ln (own, o) (s.ln (own, o) + got), rows := s.rows ++ [(k, cod "lend", o, need, got)], mv := if 0 < got then s.mv ++ [(cod "lend", o, got)] else s.mv }
def step (own : Nm) (mk : Nm → Int) (k : Int) (s : St) : Rl → St
  | .pay c => { s with cash := s.cash - minI (s.ow c) s.cash, ow := upf s.ow c (s.ow c - minI (s.ow c) s.cash), rows := s.rows ++ [(k, cod "pay", c, s.ow c, minI (s.ow c) s.cash)], sv := served s.sv [c] (s.ow c) (minI (s.ow c) s.cash) }
  | .share l => { s with cash := s.cash - (gots (l.map s.ow) s.cash).sum, ow := shO s.ow l (gots (l.map s.ow) s.cash), rows := s.rows ++ shR k l (l.map s.ow) (gots (l.map s.ow) s.cash), sv := served s.sv l (l.map s.ow).sum (gots (l.map s.ow) s.cash).sum }
  | .repay c => { s with cash := s.cash - minI (s.ow c + s.sz c) s.cash, ow := upf s.ow c (s.ow c - minI (minI (s.ow c + s.sz c) s.cash) (s.ow c)), sz := upf s.sz c (s.sz c - (minI (s.ow c + s.sz c) s.cash - minI (minI (s.ow c + s.sz c) s.cash) (s.ow c))), rows := s.rows ++ [(k, cod "repay", c, s.ow c + s.sz c, minI (s.ow c + s.sz c) s.cash)], sv := served s.sv [c] (s.ow c + s.sz c) (minI (s.ow c + s.sz c) s.cash) }
  | .fill p => { s with cash := s.cash - minI (mk p - s.lv p) s.cash, lv := upf s.lv p (s.lv p + minI (mk p - s.lv p) s.cash), rows := s.rows ++ [(k, cod "fill", p, mk p - s.lv p, minI (mk p - s.lv p) s.cash)] }
  | .lend o x => lendStep own k s o (maxI 0 (x - s.ln (own, o))) (minI (maxI 0 (x - s.ln (own, o))) s.cash)
  | .back o => { s with cash := s.cash - minI (s.ln (o, own)) s.cash, ln := upf s.ln (o, own) (s.ln (o, own) - minI (s.ln (o, own)) s.cash), rows := s.rows ++ [(k, cod "back", o, s.ln (o, own), minI (s.ln (o, own)) s.cash)], mv := if 0 < minI (s.ln (o, own)) s.cash then s.mv ++ [(cod "back", o, minI (s.ln (o, own)) s.cash)] else s.mv }
  | .rest c => { s with cash := 0, rows := s.rows ++ [(k, cod "rest", c, s.cash, s.cash)] }
def walk (own : Nm) (mk : Nm → Int) : Int → St → List Rl → St
  | _, s, [] => s
  | k, s, r :: rs => walk own mk (k + 1) (step own mk k s r) rs
def mvD (m : Nm × Nm × Int) : TDDI := (eS m.1, eS m.2.1, m.2.2)
def Sv (d : List (Nm × Bool)) (l : List Nm) : Prop := ∀ c, (lkN d c).isSome = decide (c ∈ l)
abbrev PT : Type := Int × (List (Nm × Int)) × (List (Nm × Int)) × (List (Nm × Int)) × (List (TSS × Int)) × (List TISSII) × (List TDDI) × (List (Nm × Bool))
structure RP (cs ps : List Nm) (n : Nat) (s : St) (x : PT) : Prop where
  cash : x.1 = s.cash
  sz : x.2.1 = S cs s.sz
  ow : x.2.2.1 = S cs s.ow
  lv : x.2.2.2.1 = S ps s.lv
  ln : x.2.2.2.2.1.length ≤ n ∧ ∀ p, (lkN x.2.2.2.2.1 p).getD 0 = s.ln p
  rows : x.2.2.2.2.2.1 = s.rows ∧ s.rows.length ≤ n
  mv : x.2.2.2.2.2.2.1 = s.mv.map mvD ∧ s.mv.length ≤ n
  sv : x.2.2.2.2.2.2.2.length ≤ n ∧ Sv x.2.2.2.2.2.2.2 s.sv
theorem putN_len {κ α : Type} [DecidableEq κ] (kv : List (κ × α)) (k : κ) (x : α) : (putN kv k x).length ≤ kv.length + 1 := by
  unfold putN
  split
  · rw [List.length_map]; omega
  · rw [List.length_append]; simp
theorem putK_eq {κ α : Type} [DecidableEq κ] {kv : List (κ × α)} {k : κ} {x : α} (h : kv.length < 16000000) : DL.putK kv k x = some (putN kv k x) := if_pos h
theorem eqt {a : String} : eqQ (eS (cod a)) (eS (cod a)) = some true := DK.eqQ_t
theorem asSN_S (c : Nm) : asSN (eS c) = some c := rfl
section
variable {cs ps os : List Nm} {own : Nm} {mk : Nm → Int} {k : Int} {n : Nat} {s : St} {x : PT}
theorem ln_put {d : List (TSS × Int)} {f : TSS → Int} (h : ∀ p, (lkN d p).getD 0 = f p) (q : TSS) (v : Int) : ∀ p, (lkN (putN d q v) p).getD 0 = upf f q v p := fun p => by
  rw [lk_put]
  unfold upf
  by_cases e : p = q
  · rw [if_pos e, if_pos e]; rfl
  · rw [if_neg e, if_neg e]; exact h p
theorem mv_t {m : List (Nm × Nm × Int)} {z : Nm × Nm × Int} {c : Prop} [Decidable c] (h : c) (hl : m.length ≤ n) : m.map mvD ++ [mvD z] = (if c then m ++ [z] else m).map mvD ∧ (if c then m ++ [z] else m).length ≤ n + 10 := by
  rw [if_pos h]
  exact ⟨by rw [List.map_append]; rfl, by rw [List.length_append, List.length_singleton]; omega⟩
theorem mv_f {m : List (Nm × Nm × Int)} {z : Nm × Nm × Int} {y : List TDDI} {c : Prop} [Decidable c] (h : ¬ c) (hy : y = m.map mvD) (hl : m.length ≤ n) : y = (if c then m ++ [z] else m).map mvD ∧ (if c then m ++ [z] else m).length ≤ n + 10 := by
  rw [if_neg h]
  exact ⟨hy, by omega⟩
theorem lend_ok (hR : RP cs ps n s x) {o : Nm} {z : Int} (hn : n ≤ 10000) : Ok (n_fall_loan own x.1 x.2.2.2.2.1 x.2.2.2.2.2.1 x.2.2.2.2.2.2.1 k (Rl.d (.lend o z))) fun y => RP cs ps (n + 10) (step own mk k s (.lend o z)) (y.1, x.2.1, x.2.2.1, x.2.2.2.1, y.2.1, y.2.2.1, y.2.2.2, x.2.2.2.2.2.2.2) := by
  obtain ⟨h1, h2, h3, h4, h5, h6, h7, h8⟩ := hR
  unfold n_fall_loan n_Till_drawn
  have e0 : ixD (Rl.d (.lend o z)) 0 = some (eS (cod "lend")) := rfl
  have e1 : ixD (Rl.d (.lend o z)) 1 = some (eS o) := rfl
  have e2 : ixD (Rl.d (.lend o z)) 2 = some (.int z) := rfl
  have hp := putN_len x.2.2.2.2.1 (own, o) (s.ln (own, o) + minI (maxI 0 (z - s.ln (own, o))) s.cash)
  rw [e0, bindS, eqt, bindS, if_pos rfl, e1, bindS, asSN_S, bindS, e2, bindS, show asIntD (.int z) = some z from rfl, bindS, bindS, h5.2, h1, putK_eq (by omega), bindS, bindS, bindS, bindS, asSN_S, bindS, asSN_S, bindS, h6.1]
  refine ok_eq (push_eq (by omega)) ?_
  refine ok_dite (fun c => ?_) (fun c => ?_)
  · have c : 0 < minI (maxI 0 (z - s.ln (own, o))) s.cash := c
    rw [bindS, bindS, h7.1]
    refine ok_eq (push_eq (by rw [List.length_map]; omega)) (ok_some ?_)
    refine ⟨rfl, h2, h3, h4, ⟨Nat.le_trans hp (by omega), ln_put h5.2 _ _⟩, ⟨rfl, by show (s.rows ++ _).length ≤ _; simp; omega⟩, mv_t (z := (cod "lend", o, minI (maxI 0 (z - s.ln (own, o))) s.cash)) c h7.2, ⟨by show x.2.2.2.2.2.2.2.length ≤ _; omega, h8.2⟩⟩
  · have c : ¬ 0 < minI (maxI 0 (z - s.ln (own, o))) s.cash := c
    refine ok_some ?_
    refine ⟨rfl, h2, h3, h4, ⟨Nat.le_trans hp (by omega), ln_put h5.2 _ _⟩, ⟨rfl, by show (s.rows ++ _).length ≤ _; simp; omega⟩, mv_f (z := (cod "lend", o, minI (maxI 0 (z - s.ln (own, o))) s.cash)) c h7.1 h7.2, ⟨by show x.2.2.2.2.2.2.2.length ≤ _; omega, h8.2⟩⟩
end
end FA
namespace FA
open PySem PySem.Spec PyProof.Rows L2 DL FAN
open DK (getD_of cutTake Rl S upf lk_S putK_S mkK_S S_of S_len S_keys)
def gstep (k : Int) (s : St) (g : TSS) : St := { s with lv := upf s.lv g.1 (s.lv g.1 - minI (s.lv g.1) (s.ow g.2)), ow := upf s.ow g.2 (s.ow g.2 - minI (s.lv g.1) (s.ow g.2)), rows := s.rows ++ [(k, cod "guard", g.2, s.ow g.2, minI (s.lv g.1) (s.ow g.2))] }
def gwalk : Nat → St → List TSS → St
  | _, s, [] => s
  | k, s, g :: gs => gwalk (k + 1) (gstep (k : Int) s g) gs
section
variable {cs ps os : List Nm} {own : Nm} {mk : Nm → Int}
end
structure Dr (t : TP) (b : R4) (cs ps : List Nm) (sz ow rn lv mk : Nm → Int) : Prop where
  ecs : t.2.1.map (·.1) = cs
  eps : t.2.2.1 = S ps mk
  cn : cs.Nodup
  pn : ps.Nodup
  cl : 1 ≤ cs.length ∧ cs.length ≤ 6
  pl : ps.length ≤ 3
  b1 : b.1 = S cs sz
  b2 : b.2.1 = S cs ow
  b3 : b.2.2.1 = S cs rn
  b4 : b.2.2.2.1 = S ps lv
  nsz : ∀ c, 0 ≤ sz c
  now : ∀ c, 0 ≤ ow c ∧ ow c ≤ 3000000000000000
  nlv : ∀ p, 0 ≤ lv p ∧ lv p ≤ mk p
def LN (l : List TSSI) (p : TSS) : Int := (lkN (l.map fun x => ((x.1, x.2.1), x.2.2)) p).getD 0
def St0 (o : DK.TO) (came : Int) (sz ow lv : Nm → Int) (l : List TSSI) : St := ⟨partCash o.2.1 came came, sz, ow, lv, LN l, partRows o.2.1 came came, [], []⟩
def fin (own : Nm) (mk : Nm → Int) (gs : List TSS) (o : DK.TO) (came : Int) (sz ow lv : Nm → Int) (l : List TSSI) : St := gwalk 0 (walk own mk (o.2.1.length : Int) (St0 o came sz ow lv l) o.2.2) gs
def out (cs ps : List Nm) (sz rn : Nm → Int) (lost : Int) (s : St) : R10 := (s.rows, (S cs s.sz, S cs s.ow, S cs (fun c => if 0 < sz c ∧ c ∉ s.sv then rn c + 1 else 0), S ps s.lv, lost), s.mv.map mvD)
theorem OrOk.all {cs ps os : List Nm} {ok : Rl → Prop} {o : DK.TO} (h : OrOk cs ps os ok o) : (∀ r ∈ o.2.2, r.In cs ps os ∨ ∃ c ∈ cs, r = .rest c) ∧ o.2.2.length ≤ 9 ∧ 1 ≤ o.2.2.length := by
  obtain ⟨rs, c, e, h1, h2, h3⟩ := h.rules
  rw [e]
  refine ⟨fun r hr => ?_, by simp; omega, by simp⟩
  rcases List.mem_append.mp hr with hr | hr
  · exact .inl (h3 r hr).1
  · exact .inr ⟨c, h1, List.mem_singleton.mp hr⟩
end FA
namespace FA
open PySem PySem.Spec PyProof.Rows L2 DL FAN
open DK (getD_of cutTake Rl S upf lk_S putK_S mkK_S S_of S_len S_keys)
structure Few (n : Nat) (s : St) : Prop where
  rows : s.rows.length ≤ n
  sv : s.sv.length ≤ n
  mv : s.mv.length ≤ n
section
variable {δ : Type}
end
end FA
namespace DL
open PySem PySem.Spec PyProof.Rows L2
section
variable {F : SF} {G : GF} {it : Env → Option (List D × Env)} {B : SF} {Q : Fl → Env → Prop} {env e1 : Env} {ds : List D} {σ ρ α : Type}
end
end DL
namespace DL
open PySem PySem.Spec PyProof.Rows L2
section
variable {α : Type} {E : α → T} {env e e1 e' : Env} {i j : Nat} {f fk : EF} {po fo : PF} {P : List Stp} {a : Int} {Q : Fl → Env → Prop} {B F : SF}
abbrev oH (E : α → T) (xs : List α) (j : Nat) (u : T) : T := .lst ((xs.map E).set j u)
def setN (xs : List α) (j : Nat) (x : α) : Option (List α) := if j < xs.length then some (xs.set j x) else none
def pushH (xs : List α) (j : Nat) (x : α) : Option (List α) := if j < xs.length ∧ xs.length < 16000000 then some (xs ++ [x]) else none
theorem p_ixl {k : Nat} {us : List T} {t : T} (h : po env = some (P, e)) (h2 : fk e = some (.p (.int a), e1)) (h3 : atP e1 i P = some (.lst us)) (hk : ixN us.length a = some k) (h4 : us[k]? = some t) : pIx i po fk env = some (P ++ [.ix k], e1) := by
  unfold pIx
  rw [h]
  show (fk e).bind _ = _
  rw [h2]
  show (atP e1 i P).bind _ = _
  rw [h3]
  show (ixN us.length a).bind _ = _
  rw [hk]
  show (us[k]?).map _ = _
  rw [h4]; rfl
theorem p_ixE {k : Nat} {xs : List α} {u : α} (h : po env = some ([], e)) (h2 : fk e = some (.p (.int a), e1)) (h3 : e1[i]? = some (some (oE E xs))) (hk : ixN xs.length a = some k) (h4 : xs[k]? = some u) : pIx i po fk env = some ([.ix k], e1) :=
  p_ixl (P := []) h h2 (by unfold atP; rw [h3]; rfl) (by rw [List.length_map]; exact hk) (by rw [List.getElem?_map, h4]; rfl)
end
end DL
namespace DL
open PySem PySem.Spec PyProof.Rows L2
section
variable {α β : Type} {env e : Env} {f : EF}
def m1I (g : PySem.Str → PySem.Str → Option D) (a b : Nm) : Option Int := match g (sg a) (sg b) with
  | some (.int i) => some i
  | _ => none
theorem e_m1I {g : PySem.Str → PySem.Str → Option D} {fo fe : EF} {e1 : Env} {a b : Nm} {i : Int} (h1 : fo env = some (.p (eS a), e1)) (h2 : fe e1 = some (.p (eS b), e)) (h : m1I g a b = some i) : eM1 g fo fe env = some (.p (.int i), e) := by
  unfold m1I at h
  split at h
  · rename_i j hj
    cases h
    unfold eM1; rw [h1]
    show (fe e1).bind _ = _
    rw [h2]
    show (g (sg a) (sg b)).map _ = _
    rw [hj]; rfl
  · cases h
end
end DL
namespace DL
open PySem PySem.Spec PyProof.Rows L2
section
variable {α β σ : Type} {env e : Env} {it : IF} {G : GF} {test : CF}
def mapSt (f : α → σ → Option (β × σ)) : List α → σ → Option (List β × σ)
  | [], s => some ([], s)
  | x :: xs, s => (f x s).bind fun r => (mapSt f xs r.2).map fun q => (r.1 :: q.1, q.2)
def compS (f : α → σ → Option (β × σ)) (xs : List α) (s : σ) : Option (List β × σ) := if xs.length ≤ 1000000 then mapSt f xs s else none
end
section
variable {α : Type} {E : α → T} {env e e1 e2 e' : Env} {i : Nat} {f fk : EF} {po : PF}
end
section
variable {α : Type} {E : α → T} {env w e' : Env} {i j : Nat} {B R : SF} {g : α → Option α} {Q : Fl → Env → Prop}
end
end DL
namespace DL
open PySem PySem.Spec PyProof.Rows L2
end DL
namespace DL
open PySem PySem.Spec PyProof.Rows L2
section
variable {α : Type}
end
end DL
namespace DL
open PySem PySem.Spec PyProof.Rows L2
section
variable {α : Type}
def insN (xs : List α) (n : Int) (y : α) : Option (List α) := if xs.length < 16000000 ∧ 0 ≤ n ∧ n < 9223372036854775808 then some (xs.take n.toNat ++ [y] ++ xs.drop n.toNat) else none
theorem w_insP {xs zs : List α} {dd : α → D} {x : α} {n : Int} {i : Nat} {fa : AF} {env e e' : Env} (h0 : env[i]? = some (some (oL dd xs))) (h : fa env = some ([.p (.int n), .p (dd x)], e)) (h1 : e[i]? = some (some (oL dd xs))) (hp : insN xs n x = some zs) (he : e.set i (some (oL dd zs)) = e') : sInsP i (pNm i) fa env = some (.nx, e') := by
  subst he
  unfold insN at hp
  split at hp
  · rename_i c
    cases hp
    unfold sInsP
    rw [p_nm h0]
    show (atP env i []).bind _ = _
    rw [at_nm h0]
    show (fa env).bind _ = _
    rw [h]
    show (atP e i []).bind _ = _
    rw [at_nm h1]
    show (if ((xs.map dd).map T.p).length < 16000000 ∧ 0 ≤ n ∧ n < 9223372036854775808 then some (Fl.nx, putP e i [] (.lst (((xs.map dd).map T.p).take n.toNat ++ [.p (dd x)] ++ ((xs.map dd).map T.p).drop n.toNat))) else none) = _
    rw [if_pos (by rw [List.length_map, List.length_map]; exact c), put_nm h1]
    simp only [oL, List.map_append, List.map_cons, List.map_nil, List.map_take, List.map_drop]
  · cases hp
end
end DL
namespace DL
open PySem PySem.Spec PyProof.Rows L2
section
variable {α β : Type}
end
end DL
namespace DL
open PySem PySem.Spec PyProof.Rows L2
section
variable {α β : Type}
end
end DL
namespace DL
open PySem PySem.Spec PyProof.Rows L2
end DL
namespace DL
open PySem PySem.Spec PyProof.Rows L2
end DL
namespace DL
open PySem PySem.Spec PyProof.Rows L2
end DL
namespace DL
open PySem PySem.Spec PyProof.Rows L2
section
variable {σ ρ : Type} {c : CF} {F B : SF} {Q : Fl → Env → Prop}
end
end DL
namespace DL
open PySem PySem.Spec PyProof.Rows L2
end DL
namespace DL
open PySem PySem.Spec PyProof.Rows L2
end DL
namespace DL
open PySem PySem.Spec PyProof.Rows L2
section
variable {env e : Env} {f : EF} {t : T} {α β : Type} [DecidableEq β] {kk : β → List Key} {dd : α → D}
end
end DL
namespace DL
open PySem PySem.Spec PyProof.Rows L2
section
variable {env e e1 e2 e3 e' : Env} {f fa fb fc fi fo fk fx fe : EF} {ra : AF} {po : PF} {P : List Stp} {t t1 t2 u v r : T} {ts us : List T} {d : D} {i : Nat}
section
variable [DecidableEq β] {kk : β → NK} {dd : α → D}
end
theorem eOT_toD {E : α → T} {dd : α → D} (h : ∀ x, (E x).toD = dd x) : ∀ o : Option α, (eOT E o).toD = eO dd o
  | none => rfl
  | some x => h x
end
end DL
namespace DL
open PySem PySem.Spec PyProof.Rows L2
end DL
namespace DL
open PySem PySem.Spec PyProof.Rows L2
end DL
namespace DL
open PySem PySem.Spec PyProof.Rows L2
section
variable {α β σ : Type} {env e : Env} {it : IF} {G : GF} {test : CF}
variable {α : Type} {E : α → T} {env e e1 e2 e' : Env} {i : Nat} {f fk : EF} {po : PF}
variable {α : Type} {E : α → T} {env w e' : Env} {i j : Nat} {B R : SF} {g : α → Option α} {Q : Fl → Env → Prop}
end
end DL
namespace DL
open PySem PySem.Spec PyProof.Rows L2
section
variable {α : Type} {G : GF} {F : SF} {f : EF} {env e1 : Env} {E : α → T} {ok : α → Option Unit} {Q : Fl → Env → Prop} {B : SF}
end
end DL
namespace DL
open PySem PySem.Spec PyProof.Rows L2
section
variable {α : Type} {E : α → T} {env e e1 e' : Env} {i j k1 k2 : Nat} {f fk : EF} {po fo : PF} {P : List Stp} {a : Int} {Q : Fl → Env → Prop} {B F : SF} {xss ys : List (List α)} {rs : List α} {u : α}
abbrev oHH (E : α → T) (xss : List (List α)) (k1 k2 : Nat) (rs : List α) (u : T) : T := .lst ((xss.map (oE E)).set k1 (oH E rs k2 u))
theorem p_ixE2 (h : po env = some ([.ix k1], e)) (h2 : fk e = some (.p (.int a), e1)) (h3 : e1[i]? = some (some (oE (oE E) xss))) (hr : xss[k1]? = some rs) (hk : ixN rs.length a = some k2) (h4 : rs[k2]? = some u) : pIx i po fk env = some ([.ix k1, .ix k2], e1) :=
  p_ixl (P := [.ix k1]) (us := rs.map E) h h2 (by
    unfold atP
    rw [h3]
    show ((xss.map (oE E))[k1]?).bind (getP []) = _
    rw [List.getElem?_map, hr]; rfl) (by rw [List.length_map]; exact hk) (by rw [List.getElem?_map, h4]; rfl)
theorem w_alW2 {ws : List Nat} {envA : Addr → Env} (h1 : fo env = some ([.ix k1, .ix k2], e)) (h2 : e[i]? = some (some (oE (oE E) xss))) (hrs : xss[k1]? = some rs) (hu : rs[k2]? = some u) (hr : isR (E u) = true) (hij : i ≠ j) (hl : j < e.length) (h0 : ∀ a : Addr, (e.set i (some (oHH E xss k1 k2 rs (.al (a + 1))))).set j (some (E u)) = envA a)
    (hF : ∀ a : Addr, Wp (F (envA a)) fun fl e2 => fl = .nx ∧ ∃ u' : α, e2[j]? = some (some (E u')) ∧ e2[i]? = some (some (oHH E xss k1 k2 rs (.al (a + 1)))) ∧ some (xss.set k1 (rs.set k2 u')) = some ys ∧ wipeE ((e2.set j none).set i (some (oE (oE E) ys))) ws = e') (k : Wp (B e') Q) : Wp (sSeq (sAlW j i ws fo F) B env) Q := by
  have l1 : k1 < (xss.map (oE E)).length := by rw [List.length_map]; exact (List.getElem?_eq_some_iff.mp hrs).1
  have l2 : k2 < (rs.map E).length := by rw [List.length_map]; exact (List.getElem?_eq_some_iff.mp hu).1
  have g1 : (xss.map (oE E))[k1]? = some (oE E rs) := by rw [List.getElem?_map, hrs]; rfl
  have g2 : (rs.map E)[k2]? = some (E u) := by rw [List.getElem?_map, hu]; rfl
  have hat : atP e i [.ix k1, .ix k2] = some (E u) := by
    unfold atP
    rw [h2]
    show ((xss.map (oE E))[k1]?).bind (getP [.ix k2]) = _
    rw [g1]
    show ((rs.map E)[k2]?).bind (getP []) = _
    rw [g2]; rfl
  have hput : ∀ t : T, putP e i [.ix k1, .ix k2] t = e.set i (some (oHH E xss k1 k2 rs t)) := fun t => by
    rw [putP_eq h2]
    congr 2
    show (match (xss.map (oE E))[k1]? with | some c => reb (oE (oE E) xss) (DL.setS (.ix k1) (oE (oE E) xss) (setP [.ix k2] c t)) | none => oE (oE E) xss) = _
    rw [g1]
    show T.lst ((xss.map (oE E)).set k1 (match (rs.map E)[k2]? with | some c => reb (oE E rs) (DL.setS (.ix k2) (oE E rs) (setP [] c t)) | none => oE E rs)) = _
    rw [g2]; rfl
  refine w_seq (e1 := e') ?_ k
  refine sAlW_eq h1 hat ⟨hr, hl⟩ fun a => ?_
  rw [hput, h0 a]
  obtain ⟨fl, e2, q1, rfl, u', q2, q3, q4, q5⟩ := hF a
  cases q4
  rw [q1]
  show backW i j ws [.ix k1, .ix k2] a (.nx, e2) = _
  unfold backW backP
  show Option.map _ (match e2[j]? with | some (some u') => _ | _ => none) = _
  rw [q2]
  have h3 : (e2.set j none)[i]? = some (some (oHH E xss k1 k2 rs (.al (a + 1)))) := by rw [List.getElem?_set_ne (Ne.symm hij)]; exact q3
  have h4 : atP (e2.set j none) i [.ix k1, .ix k2] = some (.al (a + 1)) := by
    unfold atP
    rw [h3]
    show (((xss.map (oE E)).set k1 (oH E rs k2 (.al (a + 1))))[k1]?).bind (getP [.ix k2]) = _
    rw [List.getElem?_set_self l1]
    show (((rs.map E).set k2 (.al (a + 1)))[k2]?).bind (getP []) = _
    rw [List.getElem?_set_self l2]; rfl
  show Option.map _ (match atP (e2.set j none) i [.ix k1, .ix k2] with | some (.al b) => if b = a + 1 then some (Fl.nx, putP (e2.set j none) i [.ix k1, .ix k2] (E u')) else none | _ => none) = _
  rw [h4]
  show Option.map _ (if a + 1 = a + 1 then some (Fl.nx, putP (e2.set j none) i [.ix k1, .ix k2] (E u')) else none) = _
  rw [if_pos rfl]
  show some (Fl.nx, wipeE (putP (e2.set j none) i [.ix k1, .ix k2] (E u')) ws) = _
  have h5 : putP (e2.set j none) i [.ix k1, .ix k2] (E u') = (e2.set j none).set i (some (oE (oE E) (xss.set k1 (rs.set k2 u')))) := by
    rw [putP_eq h3]
    congr 2
    show (match ((xss.map (oE E)).set k1 (oH E rs k2 (.al (a + 1))))[k1]? with | some c => reb (oHH E xss k1 k2 rs (.al (a + 1))) (DL.setS (.ix k1) (oHH E xss k1 k2 rs (.al (a + 1))) (setP [.ix k2] c (E u'))) | none => oHH E xss k1 k2 rs (.al (a + 1))) = _
    rw [List.getElem?_set_self l1]
    show T.lst (((xss.map (oE E)).set k1 (oH E rs k2 (.al (a + 1)))).set k1 (match ((rs.map E).set k2 (.al (a + 1)))[k2]? with | some c => reb (oH E rs k2 (.al (a + 1))) (DL.setS (.ix k2) (oH E rs k2 (.al (a + 1))) (setP [] c (E u'))) | none => oH E rs k2 (.al (a + 1)))) = _
    rw [List.getElem?_set_self l2]
    show T.lst (((xss.map (oE E)).set k1 (oH E rs k2 (.al (a + 1)))).set k1 (T.lst (((rs.map E).set k2 (.al (a + 1))).set k2 (E u')))) = T.lst ((xss.set k1 (rs.set k2 u')).map (oE E))
    rw [List.set_set, List.set_set, List.map_set]
    congr 2
    show T.lst ((rs.map E).set k2 (E u')) = T.lst ((rs.set k2 u').map E)
    rw [List.map_set]
  rw [h5, q5]
theorem w_fzN {F : SF} {t : T} {d : D} (h : env[i]? = some (some t)) (hd : t.toD = d) (he : env.set i (some (.p d)) = e') (k : Wp (F e') Q) : Wp (sFzN i F env) Q := by
  subst hd; subst he
  unfold sFzN
  rw [h]; exact k
def lenSetN (xs : List Nm) : Option Int := if xs.Nodup ∧ xs.length ≤ 1000 then some (xs.length : Int) else none
theorem txts_eq : ∀ xs : List Nm, txtsD (xs.map eS) = some (xs.map sg)
  | [] => rfl
  | x :: xs => by
    show (txtsD (xs.map eS)).map (sg x :: ·) = _
    rw [txts_eq xs]; rfl
theorem e_lenSet {xs : List Nm} {n : Int} {t : T} (h : f env = some (t, e)) (hd : t.toD = eLs eS xs) (hn : lenSetN xs = some n) : eLenSet f env = some (.p (.int n), e) := by
  unfold lenSetN at hn
  split at hn
  · rename_i c
    cases hn
    unfold eLenSet
    rw [h]
    show (match t.toD with | .lst ds => (txtsD ds).bind fun xs => if xs.Nodup ∧ xs.length ≤ 1000 then some (T.p (.int xs.length), e) else none | _ => none) = _
    rw [hd]
    show (txtsD (xs.map eS)).bind _ = _
    rw [txts_eq]
    show (if (xs.map sg).Nodup ∧ (xs.map sg).length ≤ 1000 then some (T.p (.int (xs.map sg).length), e) else none) = _
    rw [if_pos ⟨List.Pairwise.map _ (fun a b n z => n (sg_inj.mp z)) c.1, by rw [List.length_map]; exact c.2⟩, List.length_map]
  · cases hn
theorem e_keysL {α β : Type} {f : EF} {env e : Env} {kk : β → Key} {dd : α → D} {ek : β → D} {kv : List (β × α)} (hk : ∀ b, kD (kk b) = ek b) (h : f env = some (oK kk dd kv, e)) : eKeysL f env = some (oL ek (kv.map (·.1)), e) := by
  unfold eKeysL
  rw [h, bindS]
  dsimp only
  rw [show keysT (unb (oK kk dd kv)) = some ((kv.map (·.1)).map kk) from by
    show some ((pairsT (kv.map fun p => (kk p.1, dd p.2))).map (·.1)) = _
    unfold pairsT
    rw [List.map_map, List.map_map, List.map_map]; rfl]
  have e1 : ((kv.map (·.1)).map kk).map kD = (kv.map (·.1)).map ek := by
    rw [List.map_map]
    exact List.map_congr_left fun b _ => hk b
  show some (T.lst ((((kv.map (·.1)).map kk).map kD).map T.p), e) = _
  rw [e1]
theorem cl_ot {α : Type} {dd : α → D} (h : ∀ x, cleanT (.p (dd x)) = true) : ∀ o : Option (List α), cleanT (eOT (oL dd) o) = true
  | none => rfl
  | some xs => cl_l h xs
end
end DL
namespace DL
open PySem PySem.Spec PyProof.Rows L2
section
variable {α : Type} {E : α → T} {env e : Env} {i : Nat} {fk f : EF} {kv : List (Nm × α)} {n : Nm} {x y : α}
abbrev dOE (E : α → T) (x : Nm × α) : Key × T := (kS x.1, E x.2)
abbrev dO (E : α → T) (kv : List (Nm × α)) : T := .dic (kv.map (dOE E))
def setO (kv : List (Nm × α)) (n : Nm) (x : α) : List (Nm × α) := kv.map fun y => if y.1 = n then (y.1, x) else y
theorem kS_in {a b : Nm} (h : kS a = kS b) : a = b := sg_inj.mp (Sum.inr.inj h)
theorem lkO_cons (p : Nm × α) (kv : List (Nm × α)) (n : Nm) : lkN (p :: kv) n = if p.1 = n then some p.2 else lkN kv n := by
  unfold lkN
  by_cases h : p.1 = n
  · rw [List.find?_cons_of_pos (by exact decide_eq_true h), if_pos h]; rfl
  · rw [List.find?_cons_of_neg (by simpa using h), if_neg h]
theorem val_dO (n : Nm) : ∀ kv : List (Nm × α), valT (kv.map (dOE E)) (kS n) = (lkN kv n).map E
  | [] => rfl
  | p :: kv => by
    rw [List.map_cons, lkO_cons]
    show (if kS p.1 = kS n then some (E p.2) else valT (kv.map (dOE E)) (kS n)) = _
    by_cases h : p.1 = n
    · rw [if_pos (by rw [h]), if_pos h]; rfl
    · rw [if_neg (fun z => h (kS_in z)), if_neg h, val_dO n kv]
theorem setO_no : ∀ {kv : List (Nm × α)}, n ∉ kv.map (·.1) → setO kv n x = kv
  | [], _ => rfl
  | p :: kv, h => by
    rw [List.map_cons, List.mem_cons, not_or] at h
    show (if p.1 = n then (p.1, x) else p) :: setO kv n x = _
    rw [if_neg (fun z => h.1 z.symm), setO_no h.2]
theorem set_dO (n : Nm) (x : α) : ∀ {kv : List (Nm × α)}, (kv.map (·.1)).Nodup → setT (kv.map (dOE E)) (kS n) (E x) = (setO kv n x).map (dOE E)
  | [], _ => rfl
  | p :: kv, hn => by
    rw [List.map_cons] at hn
    obtain ⟨n1, n2⟩ := List.nodup_cons.mp hn
    show (if kS p.1 = kS n then (kS p.1, E x) :: kv.map (dOE E) else (kS p.1, E p.2) :: setT (kv.map (dOE E)) (kS n) (E x)) = ((if p.1 = n then (p.1, x) else p) :: setO kv n x).map (dOE E)
    by_cases h : p.1 = n
    · rw [if_pos (by rw [h]), if_pos h, setO_no (by rw [← h]; exact n1)]; rfl
    · rw [if_neg (fun z => h (kS_in z)), if_neg h, set_dO n x n2]; rfl
theorem key_dO (h0 : env[i]? = some (some (dO E kv))) (hk : fk env = some (.p (eS n), env)) (hl : lkN kv n = some x) : pKey i (pNm i) fk env = some ([.key (kS n)], env) := by
  unfold pKey
  rw [p_nm h0]
  show (fk env).bind _ = _
  rw [hk]
  show (atP env i []).bind _ = _
  rw [at_nm h0]
  show (valT (kv.map (dOE E)) (kS n)).map _ = _
  rw [val_dO, hl]; rfl
theorem at_dO (h0 : env[i]? = some (some (dO E kv))) (hl : lkN kv n = some x) : atP env i [.key (kS n)] = some (E x) := by
  unfold atP
  rw [h0]
  show (valT (kv.map (dOE E)) (kS n)).bind _ = _
  rw [val_dO, hl]; rfl
theorem put_dO (hn : (kv.map (·.1)).Nodup) (h0 : env[i]? = some (some (dO E kv))) (hl : lkN kv n = some x) : putP env i [.key (kS n)] (E y) = env.set i (some (dO E (setO kv n y))) := by
  rw [putP_eq h0]
  show env.set i (some (match valT (kv.map (dOE E)) (kS n) with | some c => T.dic (setT (kv.map (dOE E)) (kS n) (E y)) | none => dO E kv)) = _
  rw [val_dO, hl]
  show env.set i (some (T.dic (setT (kv.map (dOE E)) (kS n) (E y)))) = _
  rw [set_dO n y hn]
theorem any_dO (n : Nm) (kv : List (Nm × α)) : ((kv.map (dOE E)).any fun p => decide (p.1 = kS n)) = kv.any fun p => decide (p.1 = n) := by
  rw [List.any_map]
  congr 1
  funext p
  show decide (kS p.1 = kS n) = decide (p.1 = n)
  by_cases h : p.1 = n
  · rw [decide_eq_true h, decide_eq_true (by rw [h])]
  · rw [decide_eq_false h, decide_eq_false (fun z => h (kS_in z))]
theorem cnt_dO (h : n ∉ kv.map (·.1)) : cntT (kv.map (dOE E)) (kS n) = 0 := by
  unfold cntT
  rw [List.length_eq_zero_iff, List.filter_eq_nil_iff]
  intro p hp z
  obtain ⟨q, hq, rfl⟩ := List.mem_map.mp hp
  exact h (List.mem_map.mpr ⟨q, hq, kS_in (of_decide_eq_true z)⟩)
theorem w_putO (hl : kv.length ≤ 1000000) (h0 : env[i]? = some (some (dO E kv))) (hk : fk env = some (.p (eS n), env)) (hn : n ∉ kv.map (·.1)) (hf : f env = some (E x, env)) : sPutP i (pNm i) fk f env = some (.nx, env.set i (some (dO E (kv ++ [(n, x)])))) := by
  have hany : (kv.any fun p => decide (p.1 = n)) = false := by
    rw [List.any_eq_false]
    intro p hp h
    exact hn (List.mem_map.mpr ⟨p, hp, of_decide_eq_true h⟩)
  unfold sPutP
  rw [hf]
  show (pNm i env).bind _ = _
  rw [p_nm h0]
  show (fk env).bind _ = _
  rw [hk]
  show (atP env i []).bind _ = _
  rw [at_nm h0]
  show (if (kv.map (dOE E)).length < 16000000 ∧ (isP (E x) || decide (cntT (kv.map (dOE E)) (kS n) ≤ 1)) = true then some (Fl.nx, putP env i [] (.dic (putT (kv.map (dOE E)) (kS n) (E x)))) else none) = _
  rw [if_pos ⟨by rw [List.length_map]; omega, by rw [cnt_dO hn]; simp⟩, put_nm h0]
  congr 3
  congr 1
  unfold putT
  rw [any_dO, hany, if_neg (by decide)]
  show T.dic (kv.map (dOE E) ++ [(kS n, E x)]) = T.dic ((kv ++ [(n, x)]).map (dOE E))
  rw [List.map_append]; rfl
end
section
variable {β : Type} {dd : β → D} {env : Env} {i : Nat} {fk f : EF} {kv : List (Nm × List β)} {n : Nm} {l c : List β}
theorem w_extO (hn : (kv.map (·.1)).Nodup) (h0 : env[i]? = some (some (dO (oL dd) kv))) (hk : fk env = some (.p (eS n), env)) (hl : lkN kv n = some l) (hf : f env = some (oL dd c, env)) (hc : l.length + c.length < 16000000) :
    sExtP i (pKey i (pNm i) fk) f env = some (.nx, env.set i (some (dO (oL dd) (setO kv n (l ++ c))))) := by
  unfold sExtP
  rw [key_dO h0 hk hl]
  show (atP env i [.key (kS n)]).bind _ = _
  rw [at_dO h0 hl]
  show (f env).bind _ = _
  rw [hf]
  show (atP env i [.key (kS n)]).bind _ = _
  rw [at_dO h0 hl]
  show (if ((l.map dd).map T.p).length + ((c.map dd).map T.p).length < 16000000 then some (Fl.nx, putP env i [.key (kS n)] (T.lst ((l.map dd).map T.p ++ (c.map dd).map T.p))) else none) = _
  rw [if_pos (by simpa using hc), ← List.map_append, ← List.map_append, put_dO (E := oL dd) (y := l ++ c) hn h0 hl]
end
theorem while_ok {c : CF} {F : SF} (I : Nat → Env → Prop) (Q : Fl → Env → Prop) (hs : ∀ m env, I m env → (∃ e1, c env = some (false, e1) ∧ Q .nx e1) ∨ ∃ e1, c env = some (true, e1) ∧ ∃ fl e2, F e1 = some (fl, e2) ∧ ((fl = .nx ∧ ∃ m2, m2 < m ∧ I m2 e2) ∨ ∃ t, fl = .rt t ∧ Q (.rt t) e2)) :
    ∀ (n m : Nat) (env : Env), m < n → I m env → ∃ fl e2, whileD c F n env = some (fl, e2) ∧ Q fl e2
  | 0, m, env, h, _ => absurd h (Nat.not_lt_zero _)
  | n + 1, m, env, h, hi => by
    rcases hs m env hi with ⟨e1, h1, h2⟩ | ⟨e1, h1, fl, e2, h2, h3⟩
    · refine ⟨.nx, e1, ?_, h2⟩
      show (c env).bind _ = _
      rw [h1]; rfl
    · rcases h3 with ⟨rfl, m2, h4, h5⟩ | ⟨t, rfl, h4⟩
      · obtain ⟨fl, e3, q1, q2⟩ := while_ok I Q hs n m2 e2 (by omega) h5
        refine ⟨fl, e3, ?_, q2⟩
        show (c env).bind _ = _
        rw [h1]
        show (F e1).bind _ = _
        rw [h2]; exact q1
      · refine ⟨.rt t, e2, ?_, h4⟩
        show (c env).bind _ = _
        rw [h1]
        show (F e1).bind _ = _
        rw [h2]; rfl
end DL
set_option maxHeartbeats 2000000
namespace FDN
open PySem PySem.Spec PyProof.Rows L2 DL
abbrev TSII : Type := Nm × Int × Int
abbrev eTSII : TSII → D := eT3 eS D.int D.int
abbrev TSI : Type := Nm × Int
abbrev eTSI : TSI → D := eT2 eS D.int
abbrev R1 : Type := Nm × (List Nm)
abbrev eR1 : R1 → D := eT2 eS (eSq eS)
abbrev TSS : Type := Nm × Nm
abbrev eTSS : TSS → D := eT2 eS eS
abbrev TSSI : Type := Nm × Nm × Int
abbrev eTSSI : TSSI → D := eT3 eS eS D.int
abbrev R2 : Type := Nm × (List TSI) × (List D)
abbrev eR2 : R2 → D := eT3 eS (eLs eTSI) (eLs eD)
abbrev TSIS : Type := Nm × Int × Nm
abbrev eTSIS : TSIS → D := eT3 eS D.int eS
abbrev R3 : Type := Nm × (List TSII) × (List TSI) × (List Nm) × (List R2) × (List TSIS) × (List TSS)
abbrev eR3 : R3 → D := eT7 eS (eLs eTSII) (eLs eTSI) (eLs eS) (eLs eR2) (eLs eTSIS) (eLs eTSS)
abbrev R4 : Type := (List Int) × (List Int)
def n_law_draw (p_law_script : List Int) (p_law_k : Int) : Option Int :=
  ((if (decide ((0 : Int) < (p_law_script.length : Int))) = true then
  ((modN p_law_k (p_law_script.length : Int)).bind fun x1 =>
  (atI p_law_script x1).bind fun x2 =>
  some x2)
  else (some (0 : Int))) : Option Int).bind fun s3 =>
  (mulN ((7919000003 : Int) * p_law_k) p_law_k).bind fun x4 =>
  (mulN ((s3 + p_law_k) + (1 : Int)) ((91343852333181432387730302044767688731 : Int) + x4)).bind fun x5 =>
  some (x5 % (170141183460469231731687303715884105727 : Int))
def n_law_next (p_law_script : List Int) (p_law_at : List Int) : Option (Int × (List Int)) :=
  (atI p_law_at (0 : Int)).bind fun x1 =>
  (putI p_law_at (0 : Int) (x1 + (1 : Int))).bind fun x2 =>
  (atI x2 (0 : Int)).bind fun x3 =>
  (n_law_draw p_law_script x3).bind fun x4 =>
  some (x4, x2)
def n_law_keywords  : Option (List Nm) :=
  (splitN (cod "pool claim pot eat order part pay share repay fill lend back rest look guard debt on late early quit") (cod " ")).bind fun x1 =>
  some x1
def n_law_name (p_law_seed : Int) (p_law_k : Int) : Option Nm :=
  (modN (p_law_seed / (6 : Int)) (((2 : Int) + (p_law_seed % (6 : Int))) - (1 : Int))).bind fun x1 =>
  (rng1  ((2 : Int) + (p_law_seed % (6 : Int)))).bind fun x2 =>
  (compO (fun (x3 : Int) => (mulN x3 x3).bind fun x4 =>
  (mulN x4 ((p_law_seed / (1100 : Int)) % (5 : Int))).bind fun x5 =>
  (ixS (cod "abcdefghijklmnopqrstuvwxyz") (((p_law_seed / (42 : Int)) + x5) % (26 : Int))).bind fun x6 =>
  some x6) x2).bind fun c7 =>
  (joinN (cod "") c7).bind fun x8 =>
  (ixS (cod "abcdefghijklmnopqrstuvwxyz") (((p_law_seed / (7 : Int)) + (p_law_k / (26 : Int))) % (26 : Int))).bind fun x9 =>
  (ixS (cod "abcdefghijklmnopqrstuvwxyz") (((p_law_seed / (3 : Int)) + p_law_k) % (26 : Int))).bind fun x10 =>
  (catS x9 x10).bind fun x11 =>
  (cutN x8 none (some x1)).bind fun x12 =>
  (catS x12 x11).bind fun x13 =>
  (cutN x8 (some (x1 + (2 : Int))) none).bind fun x14 =>
  (catS x13 x14).bind fun x15 =>
  (n_law_keywords).bind fun x16 =>
  ((if (decide (x15 ∈ x16)) = true then
  ((catS x15 (cod "z")).bind fun x17 =>
  some x17)
  else (some x15)) : Option Nm).bind fun s18 =>
  some s18
def n_law_coins (p_law_n : Int) : Option Int :=
  (if (decide ((p_law_n % (4 : Int)) = (0 : Int))) = true then
  ((atI [(1 : Int), (1000000000000 : Int)] ((p_law_n / (4 : Int)) % (2 : Int))).bind fun x1 =>
  some x1)
  else ((if (decide ((p_law_n % (4 : Int)) = (1 : Int))) = true then
  (some ((1 : Int) + ((p_law_n / (4 : Int)) % (20 : Int))))
  else (some ((1 : Int) + ((p_law_n / (4 : Int)) % (1000000000000 : Int)))))))
def n_law_rule (p_law_n : Int) (p_law_claims : List TSII) (p_law_pots : List TSI) (p_law_others : List Nm) : Option D :=
  (modN (p_law_n / (7 : Int)) (p_law_claims.length : Int)).bind fun x1 =>
  (atI p_law_claims x1).bind fun x2 =>
  (if ((decide ((p_law_n % (7 : Int)) = (1 : Int))) && (decide ((1 : Int) < (p_law_claims.length : Int)))) = true then
  ((modN (p_law_n / (50 : Int)) ((p_law_claims.length : Int) - (1 : Int))).bind fun x3 =>
  (rng1  ((2 : Int) + x3)).bind fun x4 =>
  (compO (fun (x5 : Int) => (modN ((p_law_n / (400 : Int)) + x5) (p_law_claims.length : Int)).bind fun x6 =>
  (atI p_law_claims x6).bind fun x7 =>
  some x7.1) x4).bind fun c8 =>
  some (eR1 ((cod "share"), c8)))
  else ((if (decide ((p_law_n % (7 : Int)) = (2 : Int))) = true then
  (some (eTSS ((cod "repay"), x2.1)))
  else ((if ((decide ((p_law_n % (7 : Int)) = (3 : Int))) && (decide ((0 : Int) < (p_law_pots.length : Int)))) = true then
  ((modN (p_law_n / (50 : Int)) (p_law_pots.length : Int)).bind fun x9 =>
  (atI p_law_pots x9).bind fun x10 =>
  some (eTSS ((cod "fill"), x10.1)))
  else ((if ((decide ((p_law_n % (7 : Int)) = (4 : Int))) && (decide ((0 : Int) < (p_law_others.length : Int)))) = true then
  ((modN (p_law_n / (50 : Int)) (p_law_others.length : Int)).bind fun x11 =>
  (atI p_law_others x11).bind fun x12 =>
  (n_law_coins (p_law_n / (400 : Int))).bind fun x13 =>
  some (eTSSI ((cod "lend"), x12, x13)))
  else ((if ((decide ((p_law_n % (7 : Int)) = (5 : Int))) && (decide ((0 : Int) < (p_law_others.length : Int)))) = true then
  ((modN (p_law_n / (50 : Int)) (p_law_others.length : Int)).bind fun x14 =>
  (atI p_law_others x14).bind fun x15 =>
  some (eTSS ((cod "back"), x15)))
  else (some (eTSS ((cod "pay"), x2.1))))))))))))
def n_law_order (p_law_script : List Int) (p_law_at : List Int) (p_law_name_here : Nm) (p_law_claims : List TSII) (p_law_pots : List TSI) (p_law_others : List Nm) : Option (R2 × (List Int)) :=
  (n_law_next p_law_script p_law_at).bind fun x1 =>
  (modN x1.1 ((p_law_claims.length : Int) + (1 : Int))).bind fun x2 =>
  (mulN x2 ((x1.1 / (10 : Int)) % (2 : Int))).bind fun x3 =>
  (rng1  x3).bind fun x4 =>
  (fold (fun (x6 : Int) (s5 : (List Int) × (List TSI)) =>
  (modN ((x1.1 / (100 : Int)) + x6) (p_law_claims.length : Int)).bind fun x8 =>
  (atI p_law_claims x8).bind fun x9 =>
  (n_law_next p_law_script s5.1).bind fun x10 =>
  (push s5.2 (x9.1, ((1 : Int) + (x10.1 % (10 : Int))))).bind fun x11 =>
  some (x10.2, x11)) x4 (x1.2, ([] : List TSI))).bind fun s12 =>
  (rng1  ((x1.1 / (1000 : Int)) % (9 : Int))).bind fun x13 =>
  (compS (fun (x14 : Int) (s15 : (List Int)) => (n_law_next p_law_script s15).bind fun x16 =>
  (n_law_rule x16.1 p_law_claims p_law_pots p_law_others).bind fun x17 =>
  some (x17, x16.2)) x13 s12.1).bind fun x18 =>
  (modN (x1.1 / (10000 : Int)) (p_law_claims.length : Int)).bind fun x19 =>
  (atI p_law_claims x19).bind fun x20 =>
  (push x18.1 (eTSS ((cod "rest"), x20.1))).bind fun x21 =>
  some ((p_law_name_here, s12.2, x21), x18.2)
def n_law_orders (p_law_script : List Int) (p_law_at : List Int) (p_law_seed : Int) (p_law_claims : List TSII) (p_law_pots : List TSI) (p_law_others : List Nm) (p_law_most : Int) : Option ((List R2) × (List Int)) :=
  (n_law_next p_law_script p_law_at).bind fun x1 =>
  (modN x1.1 p_law_most).bind fun x2 =>
  (rng1  ((1 : Int) + x2)).bind fun x3 =>
  (fold (fun (x5 : Int) (s4 : (List Int) × (List R2)) =>
  (modN x5 (p_law_claims.length : Int)).bind fun x9 =>
  (atI p_law_claims x9).bind fun x10 =>
  (n_law_next p_law_script s4.1).bind fun x11 =>
  ((if (decide ((0 : Int) < (x11.1 % (3 : Int)))) = true then
  ((n_law_name p_law_seed ((100 : Int) + x5)).bind fun x12 =>
  some x12)
  else ((compT (fun (x13 : R2) => x13.1) s4.2).bind fun c14 =>
  (if (decide (x10.1 ∈ c14)) = true then
  ((n_law_name p_law_seed ((100 : Int) + x5)).bind fun x15 =>
  some x15)
  else (some x10.1)))) : Option Nm).bind fun s16 =>
  (n_law_order p_law_script x11.2 s16 p_law_claims p_law_pots p_law_others).bind fun x18 =>
  (push s4.2 x18.1).bind fun x19 =>
  some (x18.2, x19)) x3 (x1.2, ([] : List R2))).bind fun s20 =>
  some (s20.2, s20.1)
def n_law_shared_names (p_law_orders_here : List R2) : Option (List Nm) :=
  (fold (fun (x2 : R2) (s1 : (List Nm)) =>
  (fold (fun (x6 : D) (s5 : (List Nm)) =>
  (ixD x6 (0 : Int)).bind fun x8 =>
  (eqQ x8 (eS (cod "share"))).bind fun x9 =>
  ((if x9 = true then
  ((ixD x6 (1 : Int)).bind fun x10 =>
  (asQS x10).bind fun x11 =>
  (extL s5 x11).bind fun x12 =>
  some x12)
  else (some s5)) : Option ((List Nm))).bind fun s13 =>
  (ixD x6 (0 : Int)).bind fun x14 =>
  (eqQ x14 (eS (cod "repay"))).bind fun x15 =>
  (if x15 = true then
  ((ixD x6 (1 : Int)).bind fun x16 =>
  (asSN x16).bind fun x17 =>
  (push s13 x17).bind fun x18 =>
  some x18)
  else (some s13))) x2.2.2 s1).bind fun s19 =>
  some s19) p_law_orders_here ([] : List Nm)).bind fun s20 =>
  some s20
def n_law_guards (p_law_script : List Int) (p_law_at : List Int) (p_law_claims : List TSII) (p_law_pots : List TSI) (p_law_orders_here : List R2) : Option ((List TSS) × (List Int)) :=
  (n_law_shared_names p_law_orders_here).bind fun x1 =>
  (compTF (fun (x2 : TSII) => (!decide (x2.1 ∈ x1))) (fun (x2 : TSII) => x2.1) p_law_claims).bind fun c3 =>
  ((if (decide ((0 : Int) < (p_law_pots.length : Int))) = true then
  ((n_law_next p_law_script p_law_at).bind fun x4 =>
  (rng1  (minI (c3.length : Int) (x4.1 % (4 : Int)))).bind fun x5 =>
  (fold (fun (x7 : Int) (s6 : (List Int) × (List TSS)) =>
  (n_law_next p_law_script s6.1).bind fun x9 =>
  (modN x9.1 (p_law_pots.length : Int)).bind fun x10 =>
  (atI p_law_pots x10).bind fun x11 =>
  (atI c3 x7).bind fun x12 =>
  (push s6.2 (x11.1, x12)).bind fun x13 =>
  some (x9.2, x13)) x5 (x4.2, ([] : List TSS))).bind fun s14 =>
  some (s14.1, s14.2))
  else (some (p_law_at, ([] : List TSS)))) : Option ((List Int) × (List TSS))).bind fun s15 =>
  some (s15.2, s15.1)
def n_law_pool (p_law_script : List Int) (p_law_at : List Int) (p_law_seed : Int) (p_law_k : Int) (p_law_others : List Nm) (p_law_most : Int) : Option (R3 × (List Int)) :=
  (n_law_next p_law_script p_law_at).bind fun x1 =>
  (rng1  ((1 : Int) + (x1.1 % (6 : Int)))).bind fun x2 =>
  (fold (fun (x4 : Int) (s3 : (List Int) × (List TSII)) =>
  (n_law_next p_law_script s3.1).bind fun x7 =>
  (n_law_coins x7.1).bind fun x8 =>
  (n_law_name p_law_seed ((((10 : Int) * p_law_k) + (1 : Int)) + x4)).bind fun x9 =>
  (n_law_next p_law_script x7.2).bind fun x10 =>
  (n_law_coins x10.1).bind fun x11 =>
  (push s3.2 (x9, x8, x11)).bind fun x12 =>
  some (x10.2, x12)) x2 (x1.2, ([] : List TSII))).bind fun s13 =>
  (rng1  ((x1.1 / (6 : Int)) % (4 : Int))).bind fun x14 =>
  (compS (fun (x15 : Int) (s16 : (List Int)) => (n_law_name p_law_seed ((((10 : Int) * p_law_k) + (7 : Int)) + x15)).bind fun x17 =>
  (n_law_next p_law_script s16).bind fun x18 =>
  (n_law_coins x18.1).bind fun x19 =>
  some ((x17, x19), x18.2)) x14 s13.1).bind fun x20 =>
  (modN (x1.1 / (24 : Int)) ((s13.2.length : Int) + (1 : Int))).bind fun x21 =>
  (rng1  x21).bind fun x22 =>
  (compO (fun (x23 : Int) => (modN ((x1.1 / (100 : Int)) + x23) (s13.2.length : Int)).bind fun x24 =>
  (atI s13.2 x24).bind fun x25 =>
  some x25.1) x22).bind fun c26 =>
  (n_law_orders p_law_script x20.2 p_law_seed s13.2 x20.1 p_law_others p_law_most).bind fun x27 =>
  (rng1  ((x1.1 / (1000 : Int)) % (5 : Int))).bind fun x28 =>
  (fold (fun (x30 : Int) (s29 : (List Int) × (List TSIS)) =>
  (n_law_next p_law_script s29.1).bind fun x33 =>
  (modN x33.1 (s13.2.length : Int)).bind fun x34 =>
  (atI s13.2 x34).bind fun x35 =>
  (modN (x33.1 / (100 : Int)) (x27.1.length : Int)).bind fun x36 =>
  (atI x27.1 x36).bind fun x37 =>
  (push s29.2 (x35.1, ((1 : Int) + ((x33.1 / (10 : Int)) % (9 : Int))), x37.1)).bind fun x38 =>
  some (x33.2, x38)) x28 (x27.2, ([] : List TSIS))).bind fun s39 =>
  (n_law_guards p_law_script s39.1 s13.2 x20.1 x27.1).bind fun x40 =>
  (n_law_name p_law_seed ((10 : Int) * p_law_k)).bind fun x41 =>
  some ((x41, s13.2, x20.1, c26, x27.1, s39.2, x40.1), x40.2)
def n_law_deal (p_law_script : List Int) : Option (List R3) :=
  (n_law_draw p_law_script (0 : Int)).bind fun x1 =>
  (n_law_next p_law_script [(0 : Int)]).bind fun x2 =>
  (atI [(1 : Int), (2 : Int), (3 : Int), (1 : Int), (2 : Int), (6 : Int)] (x2.1 % (6 : Int))).bind fun x3 =>
  (rng1  x3).bind fun x4 =>
  (compO (fun (x5 : Int) => (n_law_name (x1 % (1000000000000 : Int)) ((10 : Int) * x5)).bind fun x6 =>
  some x6) x4).bind fun c7 =>
  (rng1  x3).bind fun x8 =>
  (fold (fun (x10 : Int) (s9 : (List Int) × (List R3)) =>
  (compG (fun (x14 : Nm) =>
  (atI c7 x10).bind fun x15 =>
  (if (!decide (x14 = x15)) = true then (some (some x14)) else some none)) c7).bind fun c16 =>
  (atI [(5 : Int), (2 : Int)] (if (decide (x3 = (6 : Int))) = true then (1 : Int) else (0 : Int))).bind fun x17 =>
  (n_law_pool p_law_script s9.1 (x1 % (1000000000000 : Int)) x10 c16 x17).bind fun x18 =>
  (push s9.2 x18.1).bind fun x19 =>
  some (x18.2, x19)) x8 (x2.2, ([] : List R3))).bind fun s20 =>
  some s20.2
end FDN
set_option maxHeartbeats 1000000
namespace FD
open PySem PySem.Spec PyProof.Rows L2 DL FDN
open DK (Rl)
theorem bits_lt {x : Int} {n : Nat} (h : Builtin.Int.intBits x ≤ n) : x.natAbs < 2 ^ n := by
  unfold Builtin.Int.intBits at h
  by_cases z : x = 0
  · subst z; exact Nat.two_pow_pos n
  · have hb : (x == 0) = false := by simpa using z
    rw [hb] at h
    have hn : x.natAbs ≠ 0 := by omega
    have h : x.natAbs.log2 + 1 ≤ n := h
    exact (Nat.log2_lt hn).mp (by omega)
theorem lt_bits {x : Int} {n : Nat} (hn : 1 ≤ n) (h : x.natAbs < 2 ^ n) : Builtin.Int.intBits x ≤ n := by
  unfold Builtin.Int.intBits
  by_cases z : x = 0
  · subst z; exact Nat.le_trans (by decide) hn
  · have hb : (x == 0) = false := by simpa using z
    rw [hb]
    have hx : x.natAbs ≠ 0 := by omega
    show x.natAbs.log2 + 1 ≤ n
    have := (Nat.log2_lt hx).mpr h
    omega
theorem bits_add {x d : Int} {n : Nat} (hx : Builtin.Int.intBits x ≤ n) (hd : d.natAbs < 2 ^ n) : Builtin.Int.intBits (x + d) ≤ n + 1 := by
  refine lt_bits (by omega) ?_
  have h1 := bits_lt hx
  have h2 : (x + d).natAbs ≤ x.natAbs + d.natAbs := Int.natAbs_add_le x d
  rw [Nat.pow_succ]
  omega
def Dr (x : Int) : Prop := 0 ≤ x ∧ x < 170141183460469231731687303715884105727
def Bt (ns : List Int) : Prop := ∀ z ∈ ns, Builtin.Int.intBits z ≤ 1048576
theorem draw_ok {ns : List Int} (hb : Bt ns) (k : Int) (hk : 0 ≤ k ∧ k ≤ 100000) : Ok (n_law_draw ns k) Dr := by
  unfold n_law_draw
  refine ok_bind (Q := fun s => Builtin.Int.intBits s ≤ 1048576) ?_ fun s hs => ?_
  · refine ok_dite (fun h => ?_) (fun h => ok_some (lt_bits (by omega) (Nat.two_pow_pos _)))
    refine ok_bind (ok_mod h) fun x hx => ?_
    exact ok_bind (ok_atI (R := fun z => Builtin.Int.intBits z ≤ 1048576) hx.1 hx.2 hb) fun _ h => ok_some h
  · have h1 : 0 ≤ 7919000003 * k * k := Int.mul_nonneg (by omega) hk.1
    have h2 : 7919000003 * k * k ≤ 791900000300000 * 100000 := Int.mul_le_mul (by omega) hk.2 hk.1 (by omega)
    refine ok_eq (mulN_r (by omega)) ?_
    generalize 7919000003 * k * k = q at h1 h2
    refine ok_eq (v := (s + k + 1) * (91343852333181432387730302044767688731 + q)) (if_pos ?_) (ok_some ⟨Int.emod_nonneg _ (by omega), Int.emod_lt_of_pos _ (by omega)⟩)
    unfold mulOk
    refine decide_eq_true (.inr (.inr ?_))
    have b1 : Builtin.Int.intBits (s + k + 1) ≤ 1048576 + 1 := by
      rw [Int.add_assoc]
      refine bits_add hs ?_
      have e : (k + 1).natAbs < 2 ^ 20 := by
        have : (2 : Nat) ^ 20 = 1048576 := by decide
        omega
      exact Nat.lt_of_lt_of_le e (Nat.pow_le_pow_right (by omega) (by omega))
    have b2 := bits_small (x := 91343852333181432387730302044767688731 + q) (by omega) (by omega)
    omega
abbrev abc : Nm := cod "abcdefghijklmnopqrstuvwxyz"
theorem abc_len : abc.length = 26 := by decide +kernel
theorem abc_inj : ∀ i < 26, ∀ j < 26, abc.getD i 0 = abc.getD j 0 → i = j := by decide +kernel
theorem abc_sok (i : Nat) (h : i < 26) : abc.getD i 0 < 1114112 := by
  have hl := abc_len
  rw [List.getD_eq_getElem?_getD, List.getElem?_eq_getElem (by omega)]
  exact sok_cod _ _ (List.getElem_mem _)
def cc (x : Int) : Nat := abc.getD (x % 26).toNat 0
theorem cc_ix (x : Int) : ixS abc (x % 26) = some [cc x] := by
  have h0 := Int.emod_nonneg x (show (26 : Int) ≠ 0 by omega)
  have h1 := Int.emod_lt_of_pos x (show (0 : Int) < 26 by omega)
  have hl := abc_len
  exact FA.ixS_ok (by omega) h0 (by omega)
theorem cc_sok (x : Int) : cc x < 1114112 := abc_sok _ (by omega)
theorem cc_inj {x y : Int} (h : cc x = cc y) : x % 26 = y % 26 := by
  have := abc_inj (x % 26).toNat (by omega) (y % 26).toNat (by omega) h
  omega
theorem sok_app {a b : Nm} (ha : Sok a) (hb : Sok b) : Sok (a ++ b) := fun c hc => (List.mem_append.mp hc).elim (ha c) (hb c)
def fin (K : List Nm) (w : Nm) : Nm := if w ∈ K then w ++ cod "z" else w
theorem cyc_nodup {α : Type} {cs : List α} (hn : cs.Nodup) {a : Int} {size : Nat} (hl : size ≤ cs.length) (z : α) (h1 : 0 < cs.length) : ((rngN 0 size).map fun j => cs.getD ((a + j) % (cs.length : Int)).toNat z).Nodup := by
  unfold List.Nodup
  rw [List.pairwise_iff_getElem]
  intro i j hi hj hij
  rw [List.length_map, rngN_len] at hi hj
  have hg : ∀ (k : Nat) (hk : k < ((rngN 0 size).map fun j => cs.getD ((a + j) % (cs.length : Int)).toNat z).length), ((rngN 0 size).map fun j => cs.getD ((a + j) % (cs.length : Int)).toNat z)[k] = cs.getD ((a + (k : Int)) % (cs.length : Int)).toNat z := fun k hk => by
    rw [List.getElem_map]
    unfold rngN
    rw [List.getElem_map, List.getElem_range, Int.zero_add]
  rw [hg, hg]
  have p0 : (0 : Int) < cs.length := by omega
  have e1 := Int.emod_nonneg (a + (i : Int)) (show (cs.length : Int) ≠ 0 by omega)
  have e2 := Int.emod_lt_of_pos (a + (i : Int)) p0
  have e3 := Int.emod_nonneg (a + (j : Int)) (show (cs.length : Int) ≠ 0 by omega)
  have e4 := Int.emod_lt_of_pos (a + (j : Int)) p0
  rw [List.getD_eq_getElem?_getD, List.getElem?_eq_getElem (by omega), List.getD_eq_getElem?_getD, List.getElem?_eq_getElem (by omega)]
  show cs[((a + (i : Int)) % (cs.length : Int)).toNat] ≠ cs[((a + (j : Int)) % (cs.length : Int)).toNat]
  have hne : ((a + (i : Int)) % (cs.length : Int)).toNat ≠ ((a + (j : Int)) % (cs.length : Int)).toNat := fun e => by
    have e5 : (a + (i : Int)) % (cs.length : Int) = (a + (j : Int)) % (cs.length : Int) := by omega
    have e6 := Int.emod_emod_of_dvd
    have d : (cs.length : Int) ∣ (a + (j : Int)) - (a + (i : Int)) := Int.dvd_of_emod_eq_zero (by rw [Int.sub_emod, ← e5]; simp)
    have d2 : (cs.length : Int) ∣ ((j : Int) - (i : Int)) := by
      have : (a + (j : Int)) - (a + (i : Int)) = (j : Int) - (i : Int) := by omega
      rwa [this] at d
    have := Int.le_of_dvd (by omega) d2
    omega
  unfold List.Nodup at hn
  rw [List.pairwise_iff_getElem] at hn
  rcases Nat.lt_or_gt_of_ne hne with c | c
  · exact hn _ _ _ _ c
  · exact fun e => hn _ _ _ _ c e.symm
end FD
set_option maxHeartbeats 2000000
namespace FGN
open PySem PySem.Spec PyProof.Rows L2 DL
abbrev R1 : Type := Nm × (List Nm)
abbrev eR1 : R1 → D := eT2 eS (eSq eS)
abbrev TSS : Type := Nm × Nm
abbrev eTSS : TSS → D := eT2 eS eS
abbrev TSSI : Type := Nm × Nm × Int
abbrev eTSSI : TSSI → D := eT3 eS eS D.int
abbrev TSI : Type := Nm × Int
abbrev eTSI : TSI → D := eT2 eS D.int
abbrev R2 : Type := Nm × (List TSI) × (List D)
abbrev eR2 : R2 → D := eT3 eS (eLs eTSI) (eLs eD)
abbrev TII : Type := Int × Int
abbrev eTII : TII → D := eT2 D.int D.int
abbrev TSIS : Type := Nm × Int × Nm
abbrev eTSIS : TSIS → D := eT3 eS D.int eS
abbrev TIS : Type := Int × Nm
abbrev TSII : Type := Nm × Int × Int
abbrev eTSII : TSII → D := eT3 eS D.int D.int
abbrev R3 : Type := Nm × (List TSII) × (List TSI) × (List Nm) × (List R2) × (List TSIS) × (List TSS)
abbrev eR3 : R3 → D := eT7 eS (eLs eTSII) (eLs eTSI) (eLs eS) (eLs eR2) (eLs eTSIS) (eLs eTSS)
def n_law_cell_at (p_law_script : List Int) (p_law_k : Int) : Option Int :=
  (if (decide (p_law_k < (p_law_script.length : Int))) = true then
  ((atI p_law_script p_law_k).bind fun x1 =>
  some x1)
  else (some (0 : Int)))
def n_law_mixed (p_law_cell : Int) (p_law_k : Int) : Option Int :=
  (mulN ((1511 : Int) * p_law_k) p_law_k).bind fun x1 =>
  (mulN (p_law_cell % (2147483647 : Int)) ((69621 : Int) + x1)).bind fun x2 =>
  (mulN ((x2 % (2147483629 : Int)) + p_law_k) (((x2 % (2147483629 : Int)) + ((5 : Int) * p_law_k)) + (1 : Int))).bind fun x3 =>
  some (x3 % (2147483587 : Int))
def n_law_letters (p_law_number : Int) (p_law_size : Int) : Option Nm :=
  (rng1  p_law_size).bind fun x1 =>
  (fold (fun (x3 : Int) (s2 : Int × Nm) =>
  (ixS (cod "abcdefghijklmnopqrstuvwxyz") (s2.1 % (26 : Int))).bind fun x5 =>
  (catS s2.2 x5).bind fun x6 =>
  some ((s2.1 / (26 : Int)), x6)) x1 (p_law_number, (cod ""))).bind fun s7 =>
  some s7.2
def n_law_spelt (p_law_word : Nm) : Option Nm :=
  (if ((decide (p_law_word ∈ [(cod "pool"), (cod "claim"), (cod "pot"), (cod "eat"), (cod "order"), (cod "part"), (cod "pay"), (cod "share"), (cod "repay"), (cod "fill"), (cod "lend"), (cod "back")])) || (decide (p_law_word ∈ [(cod "rest"), (cod "look"), (cod "guard"), (cod "debt"), (cod "on"), (cod "late"), (cod "early"), (cod "quit")]))) = true then
  ((cutN p_law_word none (some (-(1 : Int)))).bind fun x1 =>
  (ixS p_law_word (-(1 : Int))).bind fun x2 =>
  (m1I gIndex (cod "abcdefghijklmnopqrstuvwxyz") x2).bind fun x3 =>
  (ixS (cod "abcdefghijklmnopqrstuvwxyz") ((x3 + (13 : Int)) % (26 : Int))).bind fun x4 =>
  (catS x1 x4).bind fun x5 =>
  some x5)
  else (some p_law_word))
def n_law_words (p_law_cell : Int) (p_law_many : Int) (p_law_longest : Int) : Option (List Nm) :=
  (n_law_mixed p_law_cell (1 : Int)).bind fun x1 =>
  (mulN x1 x1).bind fun x2 =>
  (n_law_letters (x2 + x1) (8 : Int)).bind fun x3 =>
  (modN (x1 / (3 : Int)) p_law_longest).bind fun x4 =>
  (modN (x1 / (24 : Int)) ((1 : Int) + x4)).bind fun x5 =>
  (rng1  p_law_many).bind fun x6 =>
  (fold (fun (x8 : Int) (s7 : (List Nm)) =>
  (ixS (cod "abcdefghijklmnopqrstuvwxyz") (((x1 / (192 : Int)) + x8) % (26 : Int))).bind fun x12 =>
  ((if (decide ((x1 % (3 : Int)) = (0 : Int))) = true then
  ((cutN x3 none (some x5)).bind fun x13 =>
  (catS x13 x12).bind fun x14 =>
  (cutN x3 (some (x5 + (1 : Int))) (some ((1 : Int) + x4))).bind fun x15 =>
  (catS x14 x15).bind fun x16 =>
  some x16)
  else ((if (decide ((x1 % (3 : Int)) = (1 : Int))) = true then
  ((modN ((x1 / (24 : Int)) + x8) p_law_longest).bind fun x17 =>
  (cutN x3 none (some ((1 : Int) + x17))).bind fun x18 =>
  some x18)
  else ((n_law_mixed p_law_cell (x8 + (2 : Int))).bind fun x19 =>
  (n_law_letters x19 (7 : Int)).bind fun x20 =>
  (catS x12 x20).bind fun x21 =>
  (n_law_mixed p_law_cell (x8 + (40 : Int))).bind fun x22 =>
  (modN x22 p_law_longest).bind fun x23 =>
  (cutN x21 none (some ((1 : Int) + x23))).bind fun x24 =>
  some x24)))) : Option Nm).bind fun s25 =>
  (n_law_spelt s25).bind fun x26 =>
  (push s7 x26).bind fun x27 =>
  some x27) x6 ([] : List Nm)).bind fun s28 =>
  (if (decide (((x1 / (5000 : Int)) % (2 : Int)) = (1 : Int))) = true then
  (some s28.reverse)
  else (some s28))
def n_law_amount (p_law_m : Int) : Option Int :=
  (if (decide ((p_law_m % (3 : Int)) = (0 : Int))) = true then
  (some ((1 : Int) + ((p_law_m / (3 : Int)) % (4 : Int))))
  else ((mulN p_law_m p_law_m).bind fun x1 =>
  some ((1 : Int) + (x1 % (1000000000000 : Int)))))
def n_law_rule (p_law_m : Int) (p_law_claims : List Nm) (p_law_pots : List Nm) (p_law_others : List Nm) : Option D :=
  (modN (p_law_m / (8 : Int)) (p_law_claims.length : Int)).bind fun x1 =>
  (atI p_law_claims x1).bind fun x2 =>
  (if ((decide ((p_law_m % (8 : Int)) = (2 : Int))) && (decide ((1 : Int) < (p_law_claims.length : Int)))) = true then
  ((modN ((p_law_m / (8 : Int)) / (3 : Int)) ((p_law_claims.length : Int) - (1 : Int))).bind fun x3 =>
  (rng1  ((2 : Int) + x3)).bind fun x4 =>
  (compO (fun (x5 : Int) => (modN ((p_law_m / (8 : Int)) + x5) (p_law_claims.length : Int)).bind fun x6 =>
  (atI p_law_claims x6).bind fun x7 =>
  some x7) x4).bind fun c8 =>
  ((if (decide ((((p_law_m / (8 : Int)) / (9 : Int)) % (2 : Int)) = (1 : Int))) = true then
  (some c8.reverse)
  else (some c8)) : Option ((List Nm))).bind fun s9 =>
  some (eR1 ((cod "share"), s9)))
  else ((if (decide ((p_law_m % (8 : Int)) = (3 : Int))) = true then
  (some (eTSS ((cod "repay"), x2)))
  else ((if ((decide ((p_law_m % (8 : Int)) = (4 : Int))) && (decide ((0 : Int) < (p_law_pots.length : Int)))) = true then
  ((modN ((p_law_m / (8 : Int)) / (3 : Int)) (p_law_pots.length : Int)).bind fun x10 =>
  (atI p_law_pots x10).bind fun x11 =>
  some (eTSS ((cod "fill"), x11)))
  else ((if ((decide ((p_law_m % (8 : Int)) = (5 : Int))) && ((decide ((0 : Int) < (p_law_others.length : Int))) && (decide ((0 : Int) < (((p_law_m / (8 : Int)) / (3 : Int)) % (3 : Int)))))) = true then
  ((modN ((p_law_m / (8 : Int)) / (9 : Int)) (p_law_others.length : Int)).bind fun x12 =>
  (atI p_law_others x12).bind fun x13 =>
  (n_law_amount ((p_law_m / (8 : Int)) / (27 : Int))).bind fun x14 =>
  some (eTSSI ((cod "lend"), x13, x14)))
  else ((if ((decide ((p_law_m % (8 : Int)) = (5 : Int))) && (decide ((0 : Int) < (p_law_others.length : Int)))) = true then
  ((modN ((p_law_m / (8 : Int)) / (9 : Int)) (p_law_others.length : Int)).bind fun x15 =>
  (atI p_law_others x15).bind fun x16 =>
  some (eTSS ((cod "back"), x16)))
  else (some (eTSS ((cod "pay"), x2))))))))))))
def n_law_orders (p_law_cells : List Int) (p_law_claims : List Nm) (p_law_pots : List Nm) (p_law_others : List Nm) (p_law_words_here : List Nm) : Option (List R2) :=
  (atI p_law_words_here (0 : Int)).bind fun x1 =>
  (fold (fun (x3 : TII) (s2 : (List (Nm × (List TSI) × (List D)))) =>
  (n_law_mixed x3.2 (x3.1 + (3 : Int))).bind fun x13 =>
  (modN (x13 / (10 : Int)) (p_law_claims.length : Int)).bind fun x14 =>
  (atI p_law_claims x14).bind fun x15 =>
  (ixN s2.length (-(1 : Int))).bind fun x16 =>
  (s2[x16]?).bind fun x17 =>
  ((if ((decide ((x13 % (10 : Int)) = (7 : Int))) && (decide ((s2.length : Int) < (p_law_words_here.length : Int)))) = true then
  ((atI p_law_words_here (s2.length : Int)).bind fun x19 =>
  (pushH s2 x16 (x19, ([] : List TSI), ([] : List D))).bind fun x20 =>
  setN x20 x16 (x17.1, x17.2.1, x17.2.2))
  else ((if (decide ((7 : Int) < (x13 % (10 : Int)))) = true then
  (((if (decide ((((x13 / (10 : Int)) / (9 : Int)) % (4 : Int)) = (0 : Int))) = true then
  (some ((1 : Int) + (((x13 / (10 : Int)) / (36 : Int)) % (10 : Int))))
  else (some ((1 : Int) + (((x13 / (10 : Int)) / (3 : Int)) % (3 : Int))))) : Option Int).bind fun s21 =>
  (compT (fun (x22 : TSI) => x22.1) x17.2.1).bind fun c23 =>
  (if (!decide (x15 ∈ c23)) = true then
  ((push x17.2.1 (x15, s21)).bind fun x24 =>
  setN s2 x16 (x17.1, x24, x17.2.2))
  else (setN s2 x16 (x17.1, x17.2.1, x17.2.2))))
  else ((if (decide ((x17.2.2.length : Int) < (4 : Int))) = true then
  ((n_law_rule (x13 / (10 : Int)) p_law_claims p_law_pots p_law_others).bind fun x25 =>
  (push x17.2.2 x25).bind fun x26 =>
  setN s2 x16 (x17.1, x17.2.1, x26))
  else (setN s2 x16 (x17.1, x17.2.1, x17.2.2)))))))).bind fun s27 =>
  some s27) (enumN 0 p_law_cells) [(x1, ([] : List TSI), ([] : List D))]).bind fun s28 =>
  (compO (fun (x29 : Nm × (List TSI) × (List D)) => (modN (x29.2.2.length : Int) (p_law_claims.length : Int)).bind fun x30 =>
  (atI p_law_claims x30).bind fun x31 =>
  (catL x29.2.2 [eTSS ((cod "rest"), x31)]).bind fun x32 =>
  some (x29.1, x29.2.1, x32)) s28).bind fun c33 =>
  some c33
def n_law_looks (p_law_m : Int) (p_law_claims : List Nm) (p_law_orders_here : List R2) (p_law_most : Int) : Option (List TSIS) :=
  (rng1  (p_law_m % (3 : Int))).bind fun x1 =>
  (fold (fun (x3 : Int) (s2 : (List TSIS)) =>
  (mulN ((7 : Int) * x3) (p_law_m / (50 : Int))).bind fun x6 =>
  (modN (((p_law_m / (3 : Int)) + (x3 * (40 : Int))) + x6) (minI (2 : Int) (p_law_claims.length : Int))).bind fun x7 =>
  (atI p_law_claims x7).bind fun x8 =>
  (modN ((((p_law_m / (3 : Int)) + (x3 * (40 : Int))) + x6) / (2 : Int)) p_law_most).bind fun x9 =>
  (divN (((p_law_m / (3 : Int)) + (x3 * (40 : Int))) + x6) ((2 : Int) * p_law_most)).bind fun x10 =>
  (modN x10 (p_law_orders_here.length : Int)).bind fun x11 =>
  (atI p_law_orders_here x11).bind fun x12 =>
  (push s2 (x8, ((1 : Int) + x9), x12.1)).bind fun x13 =>
  some x13) x1 ([] : List TSIS)).bind fun s14 =>
  some s14
def n_law_guards (p_law_m : Int) (p_law_claims : List Nm) (p_law_pots : List Nm) (p_law_orders_here : List R2) : Option (List TSS) :=
  (fold (fun (x2 : R2) (s1 : (List Nm)) =>
  (fold (fun (x9 : D) (s8 : (List Nm)) =>
  (ixD x9 (0 : Int)).bind fun x12 =>
  (eqQ x12 (eS (cod "share"))).bind fun x13 =>
  (if x13 = true then
  ((ixD x9 (1 : Int)).bind fun x14 =>
  (asQS x14).bind fun x15 =>
  (compT (fun (x16 : Nm) => x16) x15).bind fun c17 =>
  (extL s8 c17).bind fun x18 =>
  some x18)
  else ((ixD x9 (0 : Int)).bind fun x19 =>
  (eqQ x19 (eS (cod "repay"))).bind fun x20 =>
  (if x20 = true then
  ((ixD x9 (1 : Int)).bind fun x21 =>
  (asSN x21).bind fun x22 =>
  (push s8 x22).bind fun x23 =>
  some x23)
  else (some s8))))) x2.2.2 s1).bind fun s24 =>
  some s24) p_law_orders_here ([] : List Nm)).bind fun s25 =>
  (fold (fun (x27 : TIS) (s26 : (List TSS)) =>
  (if (!decide (x27.2 ∈ s25)) = true then ((if (decide ((0 : Int) < (p_law_pots.length : Int))) = true then ((divN p_law_m (((5 : Int) * x27.1) + (3 : Int))).bind fun x30 =>
  some (decide ((0 : Int) < (x30 % (4 : Int))))) else some false).bind fun x31 =>
  some x31) else some false).bind fun x32 =>
  (if x32 = true then
  ((divN p_law_m (((7 : Int) * x27.1) + (2 : Int))).bind fun x33 =>
  (modN x33 (p_law_pots.length : Int)).bind fun x34 =>
  (atI p_law_pots x34).bind fun x35 =>
  (push s26 (x35, x27.2)).bind fun x36 =>
  some x36)
  else (some s26))) (enumN 0 p_law_claims) ([] : List TSS)).bind fun s37 =>
  some s37
def n_law_pool (p_law_cells : List Int) (p_law_words_here : List Nm) (p_law_ordered : List Nm) (p_law_others : List Nm) (p_law_most : Int) : Option R3 :=
  (n_law_cell_at p_law_cells (0 : Int)).bind fun x1 =>
  (n_law_mixed x1 (1 : Int)).bind fun x2 =>
  (n_law_cell_at p_law_cells (1 : Int)).bind fun x3 =>
  (n_law_mixed x3 (2 : Int)).bind fun x4 =>
  (n_law_orders (cutA p_law_cells (some (2 : Int)) none) (cutA p_law_words_here (some (1 : Int)) (some ((2 : Int) + (x2 % (3 : Int))))) (cutA p_law_words_here (some (4 : Int)) (some ((4 : Int) + ((x2 / (3 : Int)) % (3 : Int))))) p_law_others p_law_ordered).bind fun x5 =>
  (fold (fun (x7 : TIS) (s6 : (List TSII)) =>
  (divN x4 (x7.1 + (1 : Int))).bind fun x10 =>
  (n_law_amount x10).bind fun x11 =>
  (divN x4 (x7.1 + (5 : Int))).bind fun x12 =>
  (n_law_amount (x12 + x7.1)).bind fun x13 =>
  (push s6 (x7.2, x11, x13)).bind fun x14 =>
  some x14) (enumN 0 (cutA p_law_words_here (some (1 : Int)) (some ((2 : Int) + (x2 % (3 : Int)))))) ([] : List TSII)).bind fun s15 =>
  (modN (x2 / (36 : Int)) (((cutA p_law_words_here (some (1 : Int)) (some ((2 : Int) + (x2 % (3 : Int))))).length : Int) + (1 : Int))).bind fun x16 =>
  (rng1  x16).bind fun x17 =>
  (compO (fun (x18 : Int) => (modN ((x2 / (12 : Int)) + x18) ((cutA p_law_words_here (some (1 : Int)) (some ((2 : Int) + (x2 % (3 : Int))))).length : Int)).bind fun x19 =>
  (atI (cutA p_law_words_here (some (1 : Int)) (some ((2 : Int) + (x2 % (3 : Int))))) x19).bind fun x20 =>
  some x20) x17).bind fun c21 =>
  (divN p_law_most (maxI (1 : Int) ((cutA p_law_words_here (some (4 : Int)) (some ((4 : Int) + ((x2 / (3 : Int)) % (3 : Int))))).length : Int))).bind fun x22 =>
  (n_law_looks (x4 / (11 : Int)) (cutA p_law_words_here (some (1 : Int)) (some ((2 : Int) + (x2 % (3 : Int))))) x5 x22).bind fun x23 =>
  (compO (fun (x24 : TIS) => (n_law_amount ((x4 / (13 : Int)) + x24.1)).bind fun x25 =>
  some (x24.2, x25)) (enumN 0 (cutA p_law_words_here (some (4 : Int)) (some ((4 : Int) + ((x2 / (3 : Int)) % (3 : Int))))))).bind fun c26 =>
  (atI p_law_words_here (0 : Int)).bind fun x27 =>
  (n_law_guards (x2 / (200 : Int)) (cutA p_law_words_here (some (1 : Int)) (some ((2 : Int) + (x2 % (3 : Int))))) (cutA p_law_words_here (some (4 : Int)) (some ((4 : Int) + ((x2 / (3 : Int)) % (3 : Int))))) x5).bind fun x28 =>
  some (x27, s15, c26, c21, x5, x23, x28)
end FGN
set_option maxHeartbeats 1000000
namespace FG
open PySem PySem.Spec PyProof.Rows L2 DL FGN
open DK (Rl)
open FD (cc cc_ix cc_sok cc_inj)
theorem mixed_ok (c k : Int) (hk : 0 ≤ k ∧ k ≤ 1000) : Ok (n_law_mixed c k) fun x => 0 ≤ x ∧ x < 2147483647 := by
  unfold n_law_mixed
  refine ok_eq (mulN_l (by omega)) ?_
  refine ok_eq (mulN_l (by omega)) ?_
  have h0 : 0 ≤ c % 2147483647 * (69621 + 1511 * k * k) % 2147483629 := Int.emod_nonneg _ (by omega)
  have h1 := Int.emod_lt_of_pos (c % 2147483647 * (69621 + 1511 * k * k)) (show (0 : Int) < 2147483629 by omega)
  generalize c % 2147483647 * (69621 + 1511 * k * k) % 2147483629 = m at h0 h1
  refine ok_eq (mulN_l (by omega)) (ok_some ⟨Int.emod_nonneg _ (by omega), by have := Int.emod_lt_of_pos ((m + k) * (m + 5 * k + 1)) (show (0 : Int) < 2147483587 by omega); omega⟩)
theorem abc_ok : (cod "abcdefghijklmnopqrstuvwxyz").length = 26 := by decide +kernel
theorem sok1 {c : Nat} (h : c < 1114112) : Sok [c] := fun x hx => by rw [List.mem_singleton.mp hx]; exact h
theorem sok_app {a b : Nm} (ha : Sok a) (hb : Sok b) : Sok (a ++ b) := fun c hc => (List.mem_append.mp hc).elim (ha c) (hb c)
theorem letter_ok (x : Int) : Ok (ixS (cod "abcdefghijklmnopqrstuvwxyz") (x % 26)) fun w => w.length = 1 ∧ Sok w := by
  have h0 := Int.emod_nonneg x (show (26 : Int) ≠ 0 by omega)
  have h1 := Int.emod_lt_of_pos x (show (0 : Int) < 26 by omega)
  have hl := abc_ok
  refine ok_of (FA.ixS_ok (by omega) h0 (by omega)) ⟨rfl, sok1 ?_⟩
  rw [List.getD_eq_getElem?_getD, List.getElem?_eq_getElem (by omega)]
  exact sok_cod _ _ (List.getElem_mem _)
theorem letters_ok (n s : Int) (hs : 0 ≤ s ∧ s ≤ 8) : Ok (n_law_letters n s) fun w => w.length = s.toNat ∧ Sok w := by
  unfold n_law_letters
  refine ok_eq (rng1_eq (by omega) (by omega)) ?_
  refine ok_bind (ok_fold0 (fun pre (st : Int × Nm) => st.2.length = pre.length ∧ Sok st.2) ⟨rfl, sok_cod ""⟩ fun pre x post st e hi => ?_) fun st hst => ok_some ?_
  · have hl := congrArg List.length e
    rw [rngN_len, List.length_append, List.length_cons] at hl
    refine ok_bind (letter_ok st.1) fun w hw => ?_
    refine ok_eq (catS_eq (by omega)) (ok_some ⟨?_, sok_app hi.2 hw.2⟩)
    show (st.2 ++ w).length = (pre ++ [x]).length
    rw [List.length_append, List.length_append, hw.1, hi.1]; rfl
  · rw [rngN_len] at hst; exact hst
theorem cc_val (x : Int) : cc x = 97 + (x % 26).toNat := by
  have h : ∀ i < 26, FD.abc.getD i 0 = 97 + i := by decide +kernel
  exact h _ (by omega)
def sh (c : Nat) : Nat := 97 + (c - 97 + 13) % 26
theorem sh_cc (x : Int) : sh (cc x) = cc (x + 13) := by
  unfold sh
  rw [cc_val, cc_val]
  omega
def kws : List Nm := [(cod "pool"), (cod "claim"), (cod "pot"), (cod "eat"), (cod "order"), (cod "part"), (cod "pay"), (cod "share"), (cod "repay"), (cod "fill"), (cod "lend"), (cod "back")] ++ [(cod "rest"), (cod "look"), (cod "guard"), (cod "debt"), (cod "on"), (cod "late"), (cod "early"), (cod "quit")]
def spT (w : Nm) (v : Nm) : Bool := decide (2 ≤ w.length) && decide (v.dropLast = w.dropLast) && decide (v.length = w.length) && decide (v.getLast? = w.getLast?.map sh) && v.all fun c => decide (c < 1114112)
theorem spelt_kw : ∀ w ∈ kws, (n_law_spelt w).map (spT w) = some true := by decide +kernel
def SP (w v : Nm) : Prop := v = w ∨ (2 ≤ w.length ∧ v.dropLast = w.dropLast ∧ v.length = w.length ∧ v.getLast? = w.getLast?.map sh)
theorem spelt_ok {w : Nm} (h : Sok w) : Ok (n_law_spelt w) fun v => Sok v ∧ SP w v := by
  by_cases c : w ∈ kws
  · obtain ⟨v, e, hv⟩ := omap (spelt_kw w c)
    unfold spT at hv
    rw [Bool.and_eq_true, Bool.and_eq_true, Bool.and_eq_true, Bool.and_eq_true, decide_eq_true_eq, decide_eq_true_eq, decide_eq_true_eq, decide_eq_true_eq] at hv
    exact ⟨v, e, fun c hc => of_decide_eq_true (List.all_eq_true.mp hv.2 c hc), .inr ⟨hv.1.1.1.1, hv.1.1.1.2, hv.1.1.2, hv.1.2⟩⟩
  · unfold n_law_spelt
    have h1 := fun e => c (List.mem_append_left _ e)
    have h2 := fun e => c (List.mem_append_right _ e)
    rw [decide_eq_false h1, decide_eq_false h2]
    exact ok_some ⟨h, .inl rfl⟩
theorem SP.len {w v : Nm} (h : SP w v) : v.length = w.length := by
  rcases h with rfl | ⟨_, _, h, _⟩
  · rfl
  · exact h
theorem SP.at {w v : Nm} (h : SP w v) {i : Nat} (hi : i + 1 < w.length) : v[i]? = w[i]? := by
  have hl := h.len
  rcases h with rfl | ⟨_, h, _, _⟩
  · rfl
  · have e := congrArg (fun l : List Nat => l[i]?) h
    have e : v.dropLast[i]? = w.dropLast[i]? := e
    rw [List.getElem?_dropLast, List.getElem?_dropLast, if_pos (by omega), if_pos (by omega)] at e
    exact e
theorem SP.last {w v : Nm} {c : Nat} (h : SP w v) (hc : w.getLast? = some c) : v.getLast? = some c ∨ v.getLast? = some (sh c) := by
  rcases h with rfl | ⟨_, _, _, h⟩
  · exact .inl hc
  · rw [hc] at h; exact .inr h
def KW (x1 size at' : Int) (k : Int) (v : Nm) : Prop :=
  if x1 % 3 = 0 then (at' + 1 < size ∧ v[at'.toNat]? = some (cc (x1 / 192 + k))) ∨ (at' + 1 = size ∧ (v.getLast? = some (cc (x1 / 192 + k)) ∨ v.getLast? = some (sh (cc (x1 / 192 + k)))))
  else if x1 % 3 = 1 then (v.length : Int) = 1 + (x1 / 24 + k) % 8
  else v[0]? = some (cc (x1 / 192 + k))
theorem KW.inj {x1 size at' i j : Int} {v : Nm} (hi : 0 ≤ i ∧ i < 8) (hj : 0 ≤ j ∧ j < 8) (h1 : KW x1 size at' i v) (h2 : KW x1 size at' j v) : i = j := by
  have cj : ∀ a b : Int, 0 ≤ a ∧ a < 8 → 0 ≤ b ∧ b < 8 → cc (x1 / 192 + a) = cc (x1 / 192 + b) → a = b := fun a b ha hb e => by
    have := cc_inj e
    omega
  have cs : ∀ a b : Int, 0 ≤ a ∧ a < 8 → 0 ≤ b ∧ b < 8 → cc (x1 / 192 + a) = sh (cc (x1 / 192 + b)) → a = b := fun a b ha hb e => by
    rw [sh_cc] at e
    have := cc_inj e
    omega
  have ss : ∀ a b : Int, 0 ≤ a ∧ a < 8 → 0 ≤ b ∧ b < 8 → sh (cc (x1 / 192 + a)) = sh (cc (x1 / 192 + b)) → a = b := fun a b ha hb e => by
    rw [sh_cc, sh_cc] at e
    have := cc_inj e
    omega
  unfold KW at h1 h2
  by_cases c0 : x1 % 3 = 0
  · rw [if_pos c0] at h1 h2
    rcases h1 with ⟨a1, h1⟩ | ⟨a1, h1⟩
    · rcases h2 with ⟨a2, h2⟩ | ⟨a2, h2⟩
      · rw [h1] at h2; exact cj i j hi hj (Option.some.inj h2)
      · omega
    · rcases h2 with ⟨a2, h2⟩ | ⟨a2, h2⟩
      · omega
      · rcases h1 with h1 | h1 <;> rcases h2 with h2 | h2 <;> rw [h1] at h2
        · exact cj i j hi hj (Option.some.inj h2)
        · exact cs i j hi hj (Option.some.inj h2)
        · exact (cs j i hj hi (Option.some.inj h2).symm).symm
        · exact ss i j hi hj (Option.some.inj h2)
  · rw [if_neg c0] at h1 h2
    by_cases c1 : x1 % 3 = 1
    · rw [if_pos c1] at h1 h2
      omega
    · rw [if_neg c1] at h1 h2
      rw [h1] at h2; exact cj i j hi hj (Option.some.inj h2)
theorem cutN_eq {w : Nm} (l r : Option Int) (h : w.length ≤ 1000) : cutN w l r = some (cutA w l r) := if_pos (by omega)
end FG
namespace K57
open PySem PySem.Spec PyProof.Rows L2 DL
abbrev Or : Type := Nm × List D × List D
abbrev eOr : Or → D := eT3 eS (eLs eD) (eLs eD)
abbrev Pl : Type := Nm × List (Nm × Int × Int) × List D × List D × List Or × List D × List D
abbrev ePl : Pl → D := eT7 eS (eLs (eT3 eS D.int D.int)) (eLs eD) (eLs eD) (eLs eOr) (eLs eD) (eLs eD)
theorem bnd_e {α β : Type} {a : Option α} {v : α} {f : α → Option β} {r : Option β} (h : a = some v) (k : f v = r) : a.bind f = r := by rw [h]; exact k
def tgtD (d : D) : Option (Option Nm) := (ixD d (0 : Int)).bind fun a => (eqQ a (eS (cod "lend"))).bind fun b => if b = true then ((ixD d (1 : Int)).bind asSN).map some else some none
def lendsP (p : Pl) : Option (List Nm) := fold (fun (o : Or) (s : List Nm) => (compG tgtD o.2.2).bind fun c => extL s c) p.2.2.2.2.1 []
def lendsA : List Pl → Option (List (Nm × List Nm))
  | [] => some []
  | p :: ps => (lendsP p).bind fun l => (lendsA ps).map ((p.1, l) :: ·)
def n_law_lends (deal : List Pl) : Option (List (Nm × List Nm)) := if (deal.map (·.1)).Nodup ∧ deal.length ≤ 1000 then lendsA deal else none
abbrev dK (kv : List (Nm × List Nm)) : T := dO (oL eS) kv
theorem setO_last {kv : List (Nm × List Nm)} {n : Nm} {l m : List Nm} (hn : n ∉ kv.map (·.1)) : setO (kv ++ [(n, l)]) n m = kv ++ [(n, m)] := by
  unfold setO
  rw [List.map_append]
  have := setO_no (x := m) hn
  unfold setO at this
  rw [this]
  simp
theorem lk_last {kv : List (Nm × List Nm)} {n : Nm} {l : List Nm} (hn : n ∉ kv.map (·.1)) : lkN (kv ++ [(n, l)]) n = some l := by
  rw [lk_app, lkN_none hn]
  show (none : Option (List Nm)).or _ = _
  rw [Option.none_or, lkO_cons, if_pos rfl]
theorem toKs_dK : ∀ kv : List (Nm × List Nm), T.toKs (kv.map (dOE (oL eS))) = kv.map fun x => (kS x.1, eLs eS x.2)
  | [] => rfl
  | x :: kv => by
    show (kS x.1, (oL eS x.2).toD) :: T.toKs (kv.map (dOE (oL eS))) = _
    rw [toKs_dK kv, oL_toD]; rfl
theorem dK_toD (kv : List (Nm × List Nm)) : (dK kv).toD = eKd kS (eLs eS) kv := by
  show D.dic (T.toKs (kv.map (dOE (oL eS)))) = _
  rw [toKs_dK]
theorem lends_one {deal : D} {p : Pl} {kv : List (Nm × List Nm)} {l : List Nm} (hn : (kv.map (·.1)).Nodup) (hp : p.1 ∉ kv.map (·.1)) (hl : kv.length ≤ 1000) (h : lendsP p = some l) (u3 u4 u5 : Option T) :
    ∃ v3 v4 v5, B_law_lends_2 [some (.p deal), some (dK kv), some (.p (ePl p)), u3, u4, u5, none] = some (.nx, [some (.p deal), some (dK (kv ++ [(p.1, l)])), some (.p (ePl p)), v3, v4, v5, none]) := by
  have nd2 : ∀ m : List Nm, ((kv ++ [(p.1, m)]).map (·.1)).Nodup := fun m => by
    rw [List.map_append, List.map_cons, List.map_nil]
    exact List.nodup_append.mpr ⟨hn, by simp, fun a ha b hb => by rw [List.mem_singleton.mp hb]; exact fun z => hp (z ▸ ha)⟩
  have go : ∀ (os : List Or) (m r : List Nm) (u3 u4 u5 : Option T), fold (fun (o : Or) (s : List Nm) => (compG tgtD o.2.2).bind fun c => extL s c) os m = some r → ∃ e2, loopD (gTp 3 (gAnd (gNm 3) (gAnd (gNm 4) (gAnd (gNm 5) gEnd)))) B_law_lends_1 (os.map eOr) [some (.p deal), some (dK (kv ++ [(p.1, m)])), some (.p (ePl p)), u3, u4, u5, none] = some (.nx, e2) ∧ ∃ v3 v4 v5, e2 = [some (.p deal), some (dK (kv ++ [(p.1, r)])), some (.p (ePl p)), v3, v4, v5, none] := by
    intro os
    induction os with
    | nil => intro m r u3 u4 u5 h; cases h; exact ⟨_, rfl, u3, u4, u5, rfl⟩
    | cons o os ih =>
      intro m r u3 u4 u5 h
      obtain ⟨m2, h1, h2⟩ := obind h
      obtain ⟨c, h3, h4⟩ := obind h1
      have hb : B_law_lends_1 [some (.p deal), some (dK (kv ++ [(p.1, m)])), some (.p (ePl p)), some (.p (eS o.1)), some (.p (eLs eD o.2.1)), some (.p (eLs eD o.2.2)), none] = some (.nx, [some (.p deal), some (dK (kv ++ [(p.1, m2)])), some (.p (ePl p)), some (.p (eS o.1)), some (.p (eLs eD o.2.1)), some (.p (eLs eD o.2.2)), none]) := by
        unfold extL at h4
        split at h4
        · rename_i hc
          cases h4
          unfold B_law_lends_1
          have hcmp : eComp [6] (iL (eV 5)) (gNm 6) (cT (eCmp eqQ (eIx (eB 6) (eC (.int 0))) (eC (.str (PySem.Str.ofString "lend"))))) (eW (eIx (eB 6) (eC (.int 1)))) [some (.p deal), some (dK (kv ++ [(p.1, m)])), some (.p (ePl p)), some (.p (eS o.1)), some (.p (eLs eD o.2.1)), some (.p (eLs eD o.2.2)), none] = some (oL eS c, [some (.p deal), some (dK (kv ++ [(p.1, m)])), some (.p (ePl p)), some (.p (eS o.1)), some (.p (eLs eD o.2.1)), some (.p (eLs eD o.2.2)), none]) := by
            refine e_compGP (dd := eD) (E := eS) (fn := tgtD) (i_l (e_v rfl)) rfl h3 ?_
            intro x o2 ho
            refine ⟨_, rfl, ?_⟩
            unfold tgtD at ho
            obtain ⟨a, g1, g2⟩ := obind ho
            obtain ⟨b, g3, g4⟩ := obind g2
            refine ⟨b, _, c_t (e_cmp (e_ix (e_b rfl) e_c (x_d g1)) (e_s "lend") (u_p _) (u_p _) g3), ?_⟩
            cases b with
            | false => cases g4; exact Or.inl ⟨rfl, rfl, rfl⟩
            | true =>
              obtain ⟨y, g5, g6⟩ := omap (show ((ixD x (1 : Int)).bind asSN).map some = some o2 from g4)
              obtain ⟨z, g7, g8⟩ := obind g5
              exact Or.inr ⟨rfl, y, g6.symm, _, e_asS (e_w (e_ix (e_b rfl) e_c (x_d g7))) g8, rfl⟩
          have hx := w_extO (dd := eS) (c := c) (l := m) (i := 1) (nd2 m) (env := [some (.p deal), some (dK (kv ++ [(p.1, m)])), some (.p (ePl p)), some (.p (eS o.1)), some (.p (eLs eD o.2.1)), some (.p (eLs eD o.2.2)), none]) (fk := eW (eIx (eB 2) (eC (.int 0)))) rfl (e_w (e_ix (e_b rfl) e_c (x_t 0 rfl))) (lk_last hp) hcmp hc
          rw [setO_last hp] at hx
          exact hx
        · cases h4
      obtain ⟨e3, r1, r2⟩ := ih m2 r _ _ _ h2
      refine ⟨e3, ?_, r2⟩
      rw [List.map_cons, loop_c]
      show (some _ : Option DL.Env).bind _ = _
      rw [bindS, kLp1_q]
      exact bnd_e hb r1
  obtain ⟨e2, r1, v3, v4, v5, r2⟩ := go p.2.2.2.2.1 [] l u3 u4 u5 h
  refine ⟨v3, v4, v5, ?_⟩
  subst r2
  have hb : Wp (B_law_lends_2 [some (.p deal), some (dK kv), some (.p (ePl p)), u3, u4, u5, none]) fun fl e => fl = .nx ∧ e = [some (.p deal), some (dK (kv ++ [(p.1, l)])), some (.p (ePl p)), v3, v4, v5, none] := by
    unfold B_law_lends_2
    refine w_seq (e1 := [some (.p deal), some (dK (kv ++ [(p.1, [])])), some (.p (ePl p)), u3, u4, u5, none]) (w_putO (E := oL eS) (kv := kv) (n := p.1) (x := []) (by omega) rfl (e_w (e_ix (e_b rfl) e_c (x_t 0 rfl))) hp (e_l a_n rfl rfl)) ?_
    refine w_one ?_
    exact w_for (P := fun e => e = [some (.p deal), some (dK (kv ++ [(p.1, l)])), some (.p (ePl p)), v3, v4, v5, none]) (i_l (e_w (e_ix (e_b rfl) e_c (x_t 4 rfl)))) ⟨_, r1, rfl⟩ fun e he => w_nx ⟨rfl, he⟩
  obtain ⟨fl, e, q1, q2, q3⟩ := hb
  subst q2; subst q3
  exact q1
theorem l_law_lends {deal : List Pl} {r : List (Nm × List Nm)} (h : n_law_lends deal = some r) : phi_law_lends [eLs ePl deal] = some (.p (eKd kS (eLs eS) r)) := by
  unfold n_law_lends at h
  split at h
  · rename_i hc
    refine runF_wp rfl ?_
    show Wp (F_law_lends [some (.p (eLs ePl deal)), none, none, none, none, none, none]) _
    unfold F_law_lends
    refine w_seq (e1 := [some (.p (eLs ePl deal)), some (dK []), none, none, none, none, none]) (w_set2 (e_dn (kk := kS) (dd := D.int)) rfl rfl) ?_
    have go : ∀ (ps : List Pl) (kv r : List (Nm × List Nm)) (u2 u3 u4 u5 : Option T), (kv.map (·.1) ++ ps.map (·.1)).Nodup → kv.length + ps.length ≤ 1000 → lendsA ps = some r → ∃ e2, loopD (gNm 2) B_law_lends_2 (ps.map ePl) [some (.p (eLs ePl deal)), some (dK kv), u2, u3, u4, u5, none] = some (.nx, e2) ∧ ∃ v2 v3 v4 v5, e2 = [some (.p (eLs ePl deal)), some (dK (kv ++ r)), v2, v3, v4, v5, none] := by
      intro ps
      induction ps with
      | nil => intro kv r u2 u3 u4 u5 _ _ h; cases h; exact ⟨_, rfl, u2, u3, u4, u5, by simp⟩
      | cons p ps ih =>
        intro kv r u2 u3 u4 u5 hn hl h
        obtain ⟨l, h1, h2⟩ := obind h
        obtain ⟨q, h3, h4⟩ := omap h2
        subst h4
        rw [List.length_cons] at hl
        rw [List.map_cons] at hn
        have hp : p.1 ∉ kv.map (·.1) := fun z => (List.nodup_append.mp hn).2.2 _ z _ (by simp) rfl
        obtain ⟨v3, v4, v5, hb⟩ := lends_one (deal := eLs ePl deal) (List.nodup_append.mp hn).1 hp (by omega) h1 u3 u4 u5
        obtain ⟨e3, r1, w2, w3, w4, w5, r2⟩ := ih (kv ++ [(p.1, l)]) q (some (.p (ePl p))) v3 v4 v5 (by simpa using hn) (by rw [List.length_append, List.length_singleton]; omega) h3
        refine ⟨e3, ?_, w2, w3, w4, w5, by rw [r2]; simp⟩
        rw [List.map_cons, loop_c]
        show (some _ : Option DL.Env).bind _ = _
        rw [bindS, kLp1_q]
        exact bnd_e hb r1
    obtain ⟨e2, r1, v2, v3, v4, v5, r2⟩ := go deal [] r none none none none (by simpa using hc.1) (by simpa using hc.2) h
    refine w_for (P := fun e => e = e2) (i_l (e_v rfl)) ⟨_, r1, rfl⟩ fun e he => ?_
    subst he; subst r2
    refine w_one ?_
    exact w_sret (e_fz (e_m rfl) (dK_toD _)) (Or.inl rfl)
  · cases h
end K57
namespace K57
open PySem PySem.Spec PyProof.Rows L2 DL
abbrev Gr : Type := List (Nm × List Nm)
def Succ (g : Gr) (x y : Nm) : Prop := ∃ l, lkN g x = some l ∧ y ∈ l
structure GOk (g : Gr) : Prop where
  nd : (g.map (·.1)).Nodup
  len : g.length ≤ 1000
  cl : ∀ p ∈ g, p.2.length ≤ 1000 ∧ ∀ y ∈ p.2, y ∈ g.map (·.1)
abbrev Ws : Type := List (Nm × Nm)
inductive Back (g : Gr) (name : Nm) (ws : Ws) : Nm → List Nm → Prop
  | nil : Back g name ws name [name]
  | cons {x y : Nm} {P : List Nm} : x ≠ name → lkN ws x = some y → Succ g y x → x ∉ P → Back g name ws y P → Back g name ws x (x :: P)
theorem Back.mono {g : Gr} {name : Nm} {ws : Ws} {q : Nm × Nm} {x : Nm} {P : List Nm} (h : Back g name ws x P) : Back g name (ws ++ [q]) x P := by
  induction h with
  | nil => exact .nil
  | cons h1 h2 h3 h4 _ ih => exact .cons h1 (by rw [lk_app, h2]; rfl) h3 h4 ih
theorem Back.sub {g : Gr} {name : Nm} {ws : Ws} {x : Nm} {P : List Nm} (h : Back g name ws x P) : ∀ q ∈ P, q = name ∨ q ∈ ws.map (·.1) := by
  induction h with
  | nil => intro q hq; exact Or.inl (List.mem_singleton.mp hq)
  | @cons x y P h1 h2 h3 h4 h5 ih =>
    intro q hq
    rcases List.mem_cons.mp hq with rfl | hq
    · exact Or.inr (List.mem_map.mpr ⟨_, lk_mem h2, rfl⟩)
    · exact ih q hq
theorem Back.nodup {g : Gr} {name : Nm} {ws : Ws} {x : Nm} {P : List Nm} (h : Back g name ws x P) : P.Nodup := by
  induction h with
  | nil => simp
  | cons h1 h2 h3 h4 _ ih => exact List.nodup_cons.mpr ⟨h4, ih⟩
theorem w_if2 {c : CF} {v : Bool} {env e : DL.Env} {X Y B : SF} {Q : Fl → DL.Env → Prop} (hc : c env = some (v, e)) (ht : v = true → Wp (sSeq X B e) Q) (hf : v = false → Wp (sSeq Y B e) Q) : Wp (sSeq (sIf c X Y) B env) Q :=
  w_if (n1 := some ()) (n2 := some ()) (r := ()) hc (by split <;> rfl) (fun h _ => ht h) (fun h _ => hf h)
structure BI (g : Gr) (name : Nm) (ws : Ws) (todo : List Nm) : Prop where
  td : todo = name :: ws.map (·.1)
  nd : todo.Nodup
  sub : ∀ x ∈ todo, x ∈ g.map (·.1)
  bk : ∀ x ∈ todo, ∃ P, Back g name ws x P
theorem sub_len {α : Type} [DecidableEq α] : ∀ {es cs : List α}, es.Nodup → (∀ e ∈ es, e ∈ cs) → es.length ≤ cs.length
  | [], _, _, _ => Nat.zero_le _
  | e :: es, cs, hn, h => by
    obtain ⟨n1, n2⟩ := List.nodup_cons.mp hn
    have h1 : ∀ x ∈ es, x ∈ cs.erase e := fun x hx => (List.mem_erase_of_ne (show x ≠ e from fun z => n1 (by rw [← z]; exact hx))).mpr (h x (by simp [hx]))
    have h2 := sub_len n2 h1
    rw [List.length_erase_of_mem (h e (by simp))] at h2
    have h3 : 0 < cs.length := List.length_pos_of_mem (h e (by simp))
    rw [List.length_cons]; omega
theorem BI.len {g : Gr} {name : Nm} {ws : Ws} {todo : List Nm} (b : BI g name ws todo) : todo.length ≤ g.length := by
  have := sub_len b.nd b.sub
  rwa [List.length_map] at this
theorem BI.add {g : Gr} {name : Nm} {ws : Ws} {todo : List Nm} (b : BI g name ws todo) {x y : Nm} (hx : x ∈ todo) (hs : Succ g x y) (hy : y ∈ g.map (·.1)) (h1 : y ≠ name) (h2 : y ∉ ws.map (·.1)) : BI g name (ws ++ [(y, x)]) (todo ++ [y]) := by
  have hny : y ∉ todo := by rw [b.td, List.mem_cons, not_or]; exact ⟨h1, h2⟩
  refine ⟨by rw [b.td, List.map_append]; rfl, List.nodup_append.mpr ⟨b.nd, by simp, fun a ha c hc => by rw [List.mem_singleton.mp hc]; exact fun z => hny (z ▸ ha)⟩, fun z hz => ?_, fun z hz => ?_⟩
  · rcases List.mem_append.mp hz with hz | hz
    · exact b.sub z hz
    · rw [List.mem_singleton.mp hz]; exact hy
  · rcases List.mem_append.mp hz with hz | hz
    · obtain ⟨P, hP⟩ := b.bk z hz
      exact ⟨P, hP.mono⟩
    · rw [List.mem_singleton.mp hz]
      obtain ⟨P, hP⟩ := b.bk x hx
      refine ⟨y :: P, .cons h1 ?_ hs (fun hq => ?_) hP.mono⟩
      · rw [lk_app, lkN_none h2]
        show (none : Option Nm).or _ = _
        rw [Option.none_or, lkO_cons, if_pos rfl]
      · rcases hP.sub y hq with h | h
        · exact h1 h
        · exact h2 h
def RP (g : Gr) (name : Nm) : Option (List Nm) → Prop
  | some r => ∃ ws here P, Back g name ws here P ∧ Succ g here name ∧ r = P.reverse
  | none => ∃ S : List Nm, name ∈ S ∧ ∀ x ∈ S, ∀ y, Succ g x y → y ≠ name ∧ y ∈ S
abbrev dG (g : Gr) : D := eKd kS (eLs eS) g
section
variable {g : Gr} {name : Nm}
theorem last_e {xs : List Nm} {x : Nm} {f : EF} {env e : DL.Env} (h : f env = some (oL eS (xs ++ [x]), e)) (hl : xs.length ≤ 1000) : eIx f (eNeg (eC (.int 1))) env = some (.p (eS x), e) := by
  refine e_ix (fi := eNeg (eC (.int 1))) h (show eNeg (eC (.int 1)) e = some (.p (.int (-1)), e) from rfl) ?_
  exact x_o (dd := eS) (a := -1) (by
    unfold atI ixN
    rw [List.length_append, List.length_singleton, if_neg (by omega), if_pos (by omega)]
    show (xs ++ [x])[((xs.length + 1 : Nat) + (-1 : Int)).toNat]? = _
    rw [show ((xs.length + 1 : Nat) + (-1 : Int)).toNat = xs.length by omega]
    simp)
end
section
variable {g : Gr} {name : Nm}
theorem back_walk {ws : Ws} {here : Nm} {P : List Nm} (hB : Back g name ws here P) (hl : P.length ≤ 1000) (u3 u4 u5 u6 : Option T) :
    sWh fuelW (cT (eCmp neQ (eIx (eB 7) (eNeg (eC (.int 1)))) (eB 1))) B_ring_through_1 [some (.p (dG g)), some (.p (eS name)), some (oK kS eS ws), u3, u4, u5, u6, some (oL eS [here])] = some (.nx, [some (.p (dG g)), some (.p (eS name)), some (oK kS eS ws), u3, u4, u5, u6, some (oL eS P)]) := by
  have hfu : P.length < fuelW := by
    have e : fuelW = 1000000 := by unfold fuelW; rfl
    omega
  obtain ⟨fl, e2, q1, q2, q3⟩ := while_ok (c := cT (eCmp neQ (eIx (eB 7) (eNeg (eC (.int 1)))) (eB 1))) (F := B_ring_through_1)
    (fun m e => ∃ (done : List Nm) (x : Nm) (R : List Nm), e = [some (.p (dG g)), some (.p (eS name)), some (oK kS eS ws), u3, u4, u5, u6, some (oL eS (done ++ [x]))] ∧ Back g name ws x R ∧ done ++ R = P ∧ m = R.length)
    (fun fl e => fl = .nx ∧ e = [some (.p (dG g)), some (.p (eS name)), some (oK kS eS ws), u3, u4, u5, u6, some (oL eS P)]) (by
      rintro m env ⟨done, x, R, rfl, hb, hP, rfl⟩
      have hdl : done.length ≤ 1000 := by
        have := congrArg List.length hP
        rw [List.length_append] at this; omega
      cases hb with
      | nil => exact Or.inl ⟨_, c_t (e_cmp (last_e (e_b rfl) hdl) (e_b rfl) (u_p _) (u_p _) (by rw [neQ_g, decide_eq_true rfl]; rfl)), rfl, by rw [hP]⟩
      | @cons _ y R2 h1 h2 h3 h4 h5 =>
        refine Or.inr ⟨_, c_t (e_cmp (last_e (e_b rfl) hdl) (e_b rfl) (u_p _) (u_p _) (by rw [neQ_g, decide_eq_false h1]; rfl)), .nx, _, ?_, Or.inl ⟨rfl, R2.length, by rw [List.length_cons]; omega, done ++ [x], y, R2, rfl, h5, by rw [← hP]; simp, rfl⟩⟩
        unfold B_ring_through_1
        exact w_appL2 (dd := eS) rfl (e_dix (dd := eS) kS_inj (e_b rfl) (dic_o _) (e_w (last_e (e_b rfl) hdl)) (keyS _) h2) rfl (push_eq (by rw [List.length_append, List.length_singleton]; omega)) rfl)
    fuelW P.length _ hfu ⟨[], here, P, rfl, hB, rfl, rfl⟩
  subst q2; subst q3
  exact q1
theorem succ_walk {here : Nm} : ∀ (l : List Nm) (ws : Ws) (todo : List Nm) (pl : T) (u6 u7 : Option T), GOk g → BI g name ws todo → here ∈ todo → (∀ y ∈ l, Succ g here y ∧ y ∈ g.map (·.1)) →
    ∃ fl e2, loopD (gNm 6) B_ring_through_2 (l.map eS) [some (.p (dG g)), some (.p (eS name)), some (oK kS eS ws), some (oL eS todo), some pl, some (.p (eS here)), u6, u7] = some (fl, e2) ∧
      ((fl = .nx ∧ ∃ (ws2 : Ws) (todo2 : List Nm) (v6 v7 : Option T), e2 = [some (.p (dG g)), some (.p (eS name)), some (oK kS eS ws2), some (oL eS todo2), some pl, some (.p (eS here)), v6, v7] ∧ BI g name ws2 todo2 ∧ (∃ more, todo2 = todo ++ more) ∧ (∀ y ∈ l, y ≠ name ∧ y ∈ ws2.map (·.1))) ∨ ∃ r, fl = .rt (oL eS r) ∧ RP g name (some r))
  | [], ws, todo, pl, u6, u7, hg, hb, hh, _ => ⟨_, _, rfl, Or.inl ⟨rfl, ws, todo, u6, u7, rfl, hb, ⟨[], by simp⟩, by simp⟩⟩
  | y :: l, ws, todo, pl, u6, u7, hg, hb, hh, hl => by
    obtain ⟨hs, hy⟩ := hl y (by simp)
    have htl := hb.len
    have hgl := hg.len
    have hwl : ws.length ≤ 1000 := by
      have := congrArg List.length hb.td
      rw [List.length_cons, List.length_map] at this; omega
    rw [List.map_cons, loop_c]
    show ∃ fl e2, (some _ : Option DL.Env).bind _ = some (fl, e2) ∧ _
    rw [bindS, kLp1_q]
    by_cases c1 : y = name
    · subst c1
      obtain ⟨P, hP⟩ := hb.bk here hh
      have hPl : P.length ≤ 1000 := by
        have := sub_len hP.nodup (cs := todo) fun q hq => by
          rw [hb.td, List.mem_cons]
          exact hP.sub q hq
        omega
      have hbd : Wp (B_ring_through_2 [some (.p (dG g)), some (.p (eS y)), some (oK kS eS ws), some (oL eS todo), some pl, some (.p (eS here)), some (.p (eS y)), u7]) fun fl e => fl = .rt (oL eS P.reverse) := by
        unfold B_ring_through_2
        refine w_if2 (c_t (e_cmp (r := true) (e_b rfl) (e_b rfl) (u_p _) (u_p _) (by rw [eqQ_g, decide_eq_true rfl]))) (fun _ => ?_) (fun h => by cases h)
        refine w_assoc ?_
        refine w_seq (e1 := [some (.p (dG g)), some (.p (eS y)), some (oK kS eS ws), some (oL eS todo), some pl, some (.p (eS here)), some (.p (eS y)), some (oL eS [here])]) (w_set2 (e_l (a_c (e_v rfl) a_n) rfl rfl) rfl rfl) ?_
        refine w_assoc ?_
        refine w_seq (back_walk hP hPl _ _ _ _) ?_
        exact w_sret (e_listRev (dd := eS) (xs := P) (e_b rfl) (it_o _ _) rfl) rfl
      obtain ⟨fl, e2, r1, r2⟩ := hbd
      subst r2
      exact ⟨_, e2, bnd_e r1 rfl, Or.inr ⟨_, rfl, ws, here, P, hP, hs, rfl⟩⟩
    · by_cases c2 : y ∈ ws.map (·.1)
      · have hbd : Wp (B_ring_through_2 [some (.p (dG g)), some (.p (eS name)), some (oK kS eS ws), some (oL eS todo), some pl, some (.p (eS here)), some (.p (eS y)), u7]) fun fl e => fl = .nx ∧ e = [some (.p (dG g)), some (.p (eS name)), some (oK kS eS ws), some (oL eS todo), some pl, some (.p (eS here)), some (.p (eS y)), u7] := by
          unfold B_ring_through_2
          refine w_if2 (c_t (e_cmp (r := false) (e_b rfl) (e_b rfl) (u_p _) (u_p _) (by rw [eqQ_g, decide_eq_false c1]))) (fun h => by cases h) (fun _ => ?_)
          refine w_snx ?_
          refine w_one ?_
          obtain ⟨z, hz⟩ := lk_isSome (r := ws) c2
          refine w_if2 (c_t (e_din (dd := eS) (b := false) kS_inj (e_b rfl) (e_b rfl) (dic_o _) (keyS _))) (fun h => by rw [hz] at h; cases h) (fun _ => w_snx (w_nx ⟨rfl, rfl⟩))
        obtain ⟨fl, e2, r1, r2, r3⟩ := hbd
        subst r2; subst r3
        obtain ⟨fl, e3, q1, q2⟩ := succ_walk l ws todo pl (some (.p (eS y))) u7 hg hb hh (fun x hx => hl x (by simp [hx]))
        refine ⟨fl, e3, bnd_e r1 q1, ?_⟩
        rcases q2 with ⟨h0, ws2, todo2, v6, v7, h1, h2, h3, h4⟩ | h
        · refine Or.inl ⟨h0, ws2, todo2, v6, v7, h1, h2, h3, fun x hx => ?_⟩
          rcases List.mem_cons.mp hx with rfl | hx
          · refine ⟨c1, ?_⟩
            obtain ⟨more, hm⟩ := h3
            have : x ∈ todo2 := by rw [hm, hb.td]; simp [c2]
            rw [h2.td, List.mem_cons] at this
            exact this.resolve_left c1
          · exact h4 x hx
        · exact Or.inr h
      · have hbd : Wp (B_ring_through_2 [some (.p (dG g)), some (.p (eS name)), some (oK kS eS ws), some (oL eS todo), some pl, some (.p (eS here)), some (.p (eS y)), u7]) fun fl e => fl = .nx ∧ e = [some (.p (dG g)), some (.p (eS name)), some (oK kS eS (ws ++ [(y, here)])), some (oL eS (todo ++ [y])), some pl, some (.p (eS here)), some (.p (eS y)), u7] := by
          unfold B_ring_through_2
          refine w_if2 (c_t (e_cmp (r := false) (e_b rfl) (e_b rfl) (u_p _) (u_p _) (by rw [eqQ_g, decide_eq_false c1]))) (fun h => by cases h) (fun _ => ?_)
          refine w_snx ?_
          refine w_one ?_
          have hz : lkN ws y = none := lkN_none c2
          have hput : DL.putK ws y here = some (ws ++ [(y, here)]) := by
            unfold DL.putK
            rw [if_pos (by omega)]
            unfold putN
            rw [if_neg (by
              rw [List.any_eq_true]
              rintro ⟨p, hp, e⟩
              exact c2 (List.mem_map.mpr ⟨p, hp, of_decide_eq_true e⟩))]
          refine w_if2 (c_t (e_din (dd := eS) (b := false) kS_inj (e_b rfl) (e_b rfl) (dic_o _) (keyS _))) (fun _ => ?_) (fun h => by rw [hz] at h; cases h)
          refine w_assoc ?_
          refine w_seq (e1 := [some (.p (dG g)), some (.p (eS name)), some (oK kS eS (ws ++ [(y, here)])), some (oL eS todo), some pl, some (.p (eS here)), some (.p (eS y)), u7]) (w_putD2 (dd := eS) kS_inj (e_v rfl) rfl (e_v rfl) (keyS _) rfl hput rfl) ?_
          refine w_seq (e1 := [some (.p (dG g)), some (.p (eS name)), some (oK kS eS (ws ++ [(y, here)])), some (oL eS (todo ++ [y])), some pl, some (.p (eS here)), some (.p (eS y)), u7]) (w_appL2 (dd := eS) rfl (e_v rfl) rfl (push_eq (by omega)) rfl) ?_
          exact w_nx ⟨rfl, rfl⟩
        obtain ⟨fl, e2, r1, r2, r3⟩ := hbd
        subst r2; subst r3
        have hb2 := hb.add hh hs hy c1 c2
        obtain ⟨fl, e3, q1, q2⟩ := succ_walk l (ws ++ [(y, here)]) (todo ++ [y]) pl (some (.p (eS y))) u7 hg hb2 (by simp [hh]) (fun x hx => hl x (by simp [hx]))
        refine ⟨fl, e3, bnd_e r1 q1, ?_⟩
        rcases q2 with ⟨h0, ws2, todo2, v6, v7, h1, h2, h3, h4⟩ | h
        · obtain ⟨more, hm⟩ := h3
          refine Or.inl ⟨h0, ws2, todo2, v6, v7, h1, h2, ⟨y :: more, by rw [hm]; simp⟩, fun x hx => ?_⟩
          rcases List.mem_cons.mp hx with rfl | hx
          · refine ⟨c1, ?_⟩
            have : x ∈ todo2 := by rw [hm]; simp
            rw [h2.td, List.mem_cons] at this
            exact this.resolve_left c1
          · exact h4 x hx
        · exact Or.inr h
theorem ring_ok (hg : GOk g) (hn : name ∈ g.map (·.1)) : ∃ r, phi_ring_through [dG g, eS name] = some (eOT (oL eS) r) ∧ RP g name r := by
  have b0 : BI g name [] [name] := ⟨rfl, by simp, fun x hx => by rw [List.mem_singleton.mp hx]; exact hn, fun x hx => by rw [List.mem_singleton.mp hx]; exact ⟨_, .nil⟩⟩
  have hfu : g.length + 1 < fuelW := by
    have e : fuelW = 1000000 := by unfold fuelW; rfl
    have := hg.len
    omega
  obtain ⟨fl, e2, q1, q2⟩ := while_ok (c := cT (eCmp cLt (eB 4) (eB1 gLen (eB 3)))) (F := B_ring_through_3)
    (fun m e => ∃ (ws : Ws) (todo : List Nm) (p : Nat) (u5 u6 u7 : Option T), e = [some (.p (dG g)), some (.p (eS name)), some (oK kS eS ws), some (oL eS todo), some (.p (.int (p : Int))), u5, u6, u7] ∧ BI g name ws todo ∧ p ≤ todo.length ∧ m = g.length + 1 - p ∧ ∀ j < p, ∀ x, todo[j]? = some x → ∀ y, Succ g x y → y ≠ name ∧ y ∈ ws.map (·.1))
    (fun fl e => (fl = .nx ∧ RP g name none) ∨ ∃ r, fl = .rt (oL eS r) ∧ RP g name (some r)) (by
      rintro m env ⟨ws, todo, p, u5, u6, u7, rfl, hb, hp, rfl, hd⟩
      have htl := hb.len
      have hgl := hg.len
      have hc := c_t (e_cmp (g := cLt) (env := [some (.p (dG g)), some (.p (eS name)), some (oK kS eS ws), some (oL eS todo), some (.p (.int (p : Int))), u5, u6, u7]) (fa := eB 4) (fb := eB1 gLen (eB 3)) (r := decide ((p : Int) < (todo.length : Int))) (e_b rfl) (e_b1 (e_b rfl) (g_lenO _ _)) (u_p _) (u_p _) rfl)
      by_cases c : p < todo.length
      · have c2 : decide ((p : Int) < (todo.length : Int)) = true := decide_eq_true (by omega)
        rw [c2] at hc
        refine Or.inr ⟨_, hc, ?_⟩
        have hx : todo[p]? = some todo[p] := List.getElem?_eq_getElem c
        have hm : todo[p] ∈ todo := List.getElem_mem c
        obtain ⟨l, hl⟩ := lk_isSome (r := g) (hb.sub _ hm)
        have hlm := lk_mem hl
        obtain ⟨fl, e3, r1, r2⟩ := succ_walk l ws todo (.p (.int (p : Int))) u6 u7 hg hb hm (fun y hy => ⟨⟨l, hl, hy⟩, (hg.cl _ hlm).2 y hy⟩)
        have hat : atI todo (p : Int) = some todo[p] := atI_nat hx
        rcases r2 with ⟨rfl, ws2, todo2, v6, v7, rfl, h2, ⟨more, h3⟩, h4⟩ | ⟨r, rfl, hr⟩
        · have hbd : Wp (B_ring_through_3 [some (.p (dG g)), some (.p (eS name)), some (oK kS eS ws), some (oL eS todo), some (.p (.int (p : Int))), u5, u6, u7]) fun fl e => fl = .nx ∧ e = [some (.p (dG g)), some (.p (eS name)), some (oK kS eS ws2), some (oL eS todo2), some (.p (.int ((p : Int) + 1))), some (.p (eS todo[p])), v6, v7] := by
            unfold B_ring_through_3
            refine w_seq (e1 := [some (.p (dG g)), some (.p (eS name)), some (oK kS eS ws), some (oL eS todo), some (.p (.int (p : Int))), some (.p (eS todo[p])), u6, u7]) (w_set2 (e_w (e_ix (e_b rfl) (e_v rfl) (x_o hat))) rfl rfl) ?_
            refine w_for (P := fun e => e = [some (.p (dG g)), some (.p (eS name)), some (oK kS eS ws2), some (oL eS todo2), some (.p (.int (p : Int))), some (.p (eS todo[p])), v6, v7]) (i_l (e_dix (dd := eLs eS) (kv := g) kS_inj (e_b rfl) rfl (e_v rfl) (keyS _) hl)) ⟨_, r1, rfl⟩ fun e he => ?_
            subst he
            refine w_one ?_
            refine w_seq (w_aug2 (z := .int ((p : Int) + 1)) rfl e_c rfl rfl rfl) ?_
            exact w_nx ⟨rfl, rfl⟩
          obtain ⟨fl, e4, k1, k2, k3⟩ := hbd
          subst k2; subst k3
          refine ⟨.nx, _, k1, Or.inl ⟨rfl, g.length + 1 - (p + 1), by omega, ws2, todo2, p + 1, _, _, _, rfl, h2, ?_, rfl, fun j hj x hjx y hy => ?_⟩⟩
          · rw [h3, List.length_append]; omega
          · by_cases cj : j = p
            · subst cj
              rw [h3, List.getElem?_append_left c, hx] at hjx
              cases hjx
              obtain ⟨l2, g1, g2⟩ := hy
              rw [hl] at g1
              cases g1
              exact h4 y g2
            · rw [h3, List.getElem?_append_left (by omega)] at hjx
              obtain ⟨a1, a2⟩ := hd j (by omega) x hjx y hy
              refine ⟨a1, ?_⟩
              have : y ∈ todo2 := by rw [h3, hb.td]; simp [a2]
              rw [h2.td, List.mem_cons] at this
              exact this.resolve_left a1
        · refine ⟨.rt (oL eS r), e3, ?_, Or.inr ⟨_, rfl, Or.inr ⟨r, rfl, hr⟩⟩⟩
          unfold B_ring_through_3
          rw [sSeq_q, w_set2 (e' := [some (.p (dG g)), some (.p (eS name)), some (oK kS eS ws), some (oL eS todo), some (.p (.int (p : Int))), some (.p (eS todo[p])), u6, u7]) (e_w (e_ix (e_b rfl) (e_v rfl) (x_o hat))) rfl rfl, bindS, kSeq_n, sSeq_q]
          have hf : sFor (iL (eDix (eB 0) (eV 5))) (gNm 6) B_ring_through_2 [some (.p (dG g)), some (.p (eS name)), some (oK kS eS ws), some (oL eS todo), some (.p (.int (p : Int))), some (.p (eS todo[p])), u6, u7] = some (.rt (oL eS r), e3) := by
            rw [sFor_q, i_l (e_dix (dd := eLs eS) (kv := g) kS_inj (e_b rfl) rfl (e_v rfl) (keyS _) hl), bindS, kFor_q, r1]
          rw [hf]; rfl
      · have c2 : decide ((p : Int) < (todo.length : Int)) = false := decide_eq_false (by omega)
        rw [c2] at hc
        refine Or.inl ⟨_, hc, Or.inl ⟨rfl, todo, by rw [hb.td]; simp, fun x hx y hy => ?_⟩⟩
        obtain ⟨j, hj, e⟩ := List.mem_iff_getElem.mp hx
        obtain ⟨a1, a2⟩ := hd j (by omega) x (by rw [List.getElem?_eq_getElem hj, e]) y hy
        exact ⟨a1, by rw [hb.td]; simp [a2]⟩)
    fuelW (g.length + 1) [some (.p (dG g)), some (.p (eS name)), some (oK kS eS ([] : Ws)), some (oL eS [name]), some (.p (.int 0)), none, none, none] hfu ⟨[], [name], 0, none, none, none, rfl, b0, Nat.zero_le _, rfl, fun j hj => absurd hj (Nat.not_lt_zero _)⟩
  have fin : ∀ r, (fl = .nx ∧ r = none ∨ ∃ x, fl = .rt (oL eS x) ∧ r = some x) → phi_ring_through [dG g, eS name] = some (eOT (oL eS) r) := fun r hr => by
    refine runF_wp rfl ?_
    show Wp (F_ring_through [some (.p (dG g)), some (.p (eS name)), none, none, none, none, none, none]) _
    unfold F_ring_through
    refine w_seq (e1 := [some (.p (dG g)), some (.p (eS name)), some (oK kS eS ([] : Ws)), none, none, none, none, none]) (w_set2 e_dn rfl rfl) ?_
    refine w_seq (e1 := [some (.p (dG g)), some (.p (eS name)), some (oK kS eS ([] : Ws)), some (oL eS [name]), none, none, none, none]) (w_set2 (e_l (a_c (e_v rfl) a_n) rfl rfl) rfl rfl) ?_
    refine w_seq (e1 := [some (.p (dG g)), some (.p (eS name)), some (oK kS eS ([] : Ws)), some (oL eS [name]), some (.p (.int 0)), none, none, none]) (w_set2 e_c rfl rfl) ?_
    rcases hr with ⟨rfl, rfl⟩ | ⟨x, rfl, rfl⟩
    · refine w_seq (e1 := e2) q1 ?_
      refine w_one ?_
      exact w_sret e_c (Or.inl rfl)
    · refine ⟨.rt (oL eS x), e2, ?_, Or.inl rfl⟩
      rw [sSeq_q]
      show Option.bind (sWh fuelW (cT (eCmp cLt (eB 4) (eB1 gLen (eB 3)))) B_ring_through_3 _) _ = _
      have q1' : sWh fuelW (cT (eCmp cLt (eB 4) (eB1 gLen (eB 3)))) B_ring_through_3 [some (.p (dG g)), some (.p (eS name)), some (oK kS eS ([] : Ws)), some (oL eS [name]), some (.p (.int 0)), none, none, none] = some (.rt (oL eS x), e2) := q1
      rw [q1']; rfl
  rcases q2 with ⟨rfl, h⟩ | ⟨r, rfl, h⟩
  · exact ⟨none, fin none (Or.inl ⟨rfl, rfl⟩), h⟩
  · exact ⟨some r, fin (some r) (Or.inr ⟨r, rfl, rfl⟩), h⟩
end
open Classical in
noncomputable def n_ring_through (g : Gr) (name : Nm) : Option (Option (List Nm)) :=
  if h : ∃ r, phi_ring_through [dG g, eS name] = some (eOT (oL eS) r) ∧ RP g name r then some h.choose else none
theorem l_ring_through {g : Gr} {name : Nm} {r : Option (List Nm)} (h : n_ring_through g name = some r) : phi_ring_through [eKd kS (eLs eS) g, eS name] = some (eOT (oL eS) r) := by
  unfold n_ring_through at h
  split at h
  · rename_i hx
    have h := Option.some.inj h
    subst h
    exact hx.choose_spec.1
  · cases h
theorem n_ring {g : Gr} {name : Nm} (hg : GOk g) (hn : name ∈ g.map (·.1)) : ∃ r, n_ring_through g name = some r ∧ RP g name r := by
  have hx := ring_ok hg hn
  refine ⟨hx.choose, ?_, hx.choose_spec.2⟩
  unfold n_ring_through
  rw [dif_pos hx]
end K57
set_option maxHeartbeats 2000000
namespace K57
noncomputable section
open PySem PySem.Spec PyProof.Rows L2 DL
abbrev TSII : Type := Nm × Int × Int
abbrev eTSII : TSII → D := eT3 eS D.int D.int
abbrev R1 : Type := Nm × (List D) × (List D)
abbrev eR1 : R1 → D := eT3 eS (eLs eD) (eLs eD)
abbrev R2 : Type := Nm × (List TSII) × (List D) × (List D) × (List R1) × (List D) × (List D)
abbrev eR2 : R2 → D := eT7 eS (eLs eTSII) (eLs eD) (eLs eD) (eLs eR1) (eLs eD) (eLs eD)
abbrev TSS : Type := Nm × Nm
abbrev eTSS : TSS → D := eT2 eS eS
abbrev TII : Type := Int × Int
abbrev eTII : TII → D := eT2 D.int D.int
abbrev TSSI : Type := Nm × Nm × Int
abbrev eTSSI : TSSI → D := eT3 eS eS D.int
def n_law_cell_at (p_law_script : List Int) (p_law_k : Int) : Option Int :=
  (if (decide (p_law_k < (p_law_script.length : Int))) = true then
  ((atI p_law_script p_law_k).bind fun x1 =>
  some x1)
  else (some (0 : Int)))
theorem l_law_cell_at {p_law_script : List Int} {p_law_k : Int} {r : Int} (h : n_law_cell_at p_law_script p_law_k = some r) : phi_law_cell_at [(eLs D.int p_law_script), (D.int p_law_k)] = some (.p (D.int r)) := by
  unfold n_law_cell_at at h
  refine runF_wp rfl ?_
  show Wp (F_law_cell_at [some (.p (eLs D.int p_law_script)), some (.p (D.int p_law_k))]) _
  unfold F_law_cell_at
  refine w_if (c_t (e_cmp (e_b rfl) (e_b1 (e_b rfl) (g_lenL _ _)) (u_p _) (u_p _) rfl)) h (fun hb h => ?_) (fun hb h => ?_)
  · refine bnd h fun x1 hx1 h => ?_
    have h := Option.some.inj h
    subst h
    exact w_sret (e_w (e_ix (e_b rfl) (e_v rfl) (x_l hx1))) (Or.inl rfl)
  · refine w_snx ?_
    refine w_one ?_
    have h := Option.some.inj h
    subst h
    exact w_sret e_c (Or.inl rfl)
def n_law_mixed (p_law_cell : Int) (p_law_k : Int) : Option Int :=
  (mulN ((1511 : Int) * p_law_k) p_law_k).bind fun x1 =>
  (mulN (p_law_cell % (2147483647 : Int)) ((69621 : Int) + x1)).bind fun x2 =>
  (mulN ((x2 % (2147483629 : Int)) + p_law_k) (((x2 % (2147483629 : Int)) + ((5 : Int) * p_law_k)) + (1 : Int))).bind fun x3 =>
  some (x3 % (2147483587 : Int))
theorem l_law_mixed {p_law_cell : Int} {p_law_k : Int} {r : Int} (h : n_law_mixed p_law_cell p_law_k = some r) : phi_law_mixed [(D.int p_law_cell), (D.int p_law_k)] = some (.p (D.int r)) := by
  unfold n_law_mixed at h
  refine runF_wp rfl ?_
  show Wp (F_law_mixed [some (.p (D.int p_law_cell)), some (.p (D.int p_law_k)), none]) _
  unfold F_law_mixed
  refine bnd h fun x1 hx1 h => ?_
  refine bnd h fun x2 hx2 h => ?_
  refine w_seq (e1 := [some (.p (D.int p_law_cell)), some (.p (D.int p_law_k)), some (.p (D.int (x2 % (2147483629 : Int))))]) (w_set2 (e_op (e_op (e_op (e_v rfl) e_c (g_modR rfl)) (e_op e_c (e_op (e_op e_c (e_v rfl) (g_mulL rfl)) (e_v rfl) (g_mul hx1)) rfl) (g_mul hx2)) e_c (g_modR rfl)) rfl rfl) ?_
  refine w_one ?_
  refine bnd h fun x3 hx3 h => ?_
  have h := Option.some.inj h
  subst h
  exact w_sret (e_op (e_op (e_op (e_v rfl) (e_v rfl) rfl) (e_op (e_op (e_v rfl) (e_op e_c (e_v rfl) (g_mulL rfl)) rfl) e_c rfl) (g_mul hx3)) e_c (g_modR rfl)) (Or.inl rfl)
def n_law_letters (p_law_number : Int) (p_law_size : Int) : Option Nm :=
  (rng1  p_law_size).bind fun x1 =>
  (fold (fun (x3 : Int) (s2 : Int × Nm) =>
  (ixS (cod "abcdefghijklmnopqrstuvwxyz") (s2.1 % (26 : Int))).bind fun x5 =>
  (catS s2.2 x5).bind fun x6 =>
  some ((s2.1 / (26 : Int)), x6)) x1 (p_law_number, (cod ""))).bind fun s7 =>
  some s7.2
theorem l_law_letters {p_law_number : Int} {p_law_size : Int} {r : Nm} (h : n_law_letters p_law_number p_law_size = some r) : phi_law_letters [(D.int p_law_number), (D.int p_law_size)] = some (.p (eS r)) := by
  unfold n_law_letters at h
  refine runF_wp rfl ?_
  show Wp (F_law_letters [some (.p (D.int p_law_number)), some (.p (D.int p_law_size)), none, none, none]) _
  unfold F_law_letters
  refine w_seq (e1 := [some (.p (D.int p_law_number)), some (.p (D.int p_law_size)), some (.p (eS (cod "abcdefghijklmnopqrstuvwxyz"))), none, none]) (w_set2 (e_s "abcdefghijklmnopqrstuvwxyz") rfl rfl) ?_
  refine w_seq (e1 := [some (.p (D.int p_law_number)), some (.p (D.int p_law_size)), some (.p (eS (cod "abcdefghijklmnopqrstuvwxyz"))), some (.p (eS (cod ""))), none]) (w_set2 (e_s "") rfl rfl) ?_
  refine bnd h fun x1 hx1 h => ?_
  refine bnd h fun s7 hs7 h => ?_
  refine w_for (P := (fun e => ∃ u4, e = [some (.p (D.int s7.1)), some (.p (D.int p_law_size)), some (.p (eS (cod "abcdefghijklmnopqrstuvwxyz"))), some (.p (eS s7.2)), u4])) (i_r1 (a_c (e_v rfl) a_n) hx1) (loop_fold (dd := D.int) (fun (s2 : Int × Nm) e => ∃ u4, e = [some (.p (D.int s2.1)), some (.p (D.int p_law_size)), some (.p (eS (cod "abcdefghijklmnopqrstuvwxyz"))), some (.p (eS s2.2)), u4]) ?_ _ _ _ _ ⟨_, rfl⟩ hs7) (fun e he => ?_)
  · intro x3 s2 sN env hR h
    obtain ⟨u4, rfl⟩ := hR
    refine ⟨_, rfl, ?_⟩
    unfold B_law_letters_1
    refine bnd h fun x5 hx5 h => ?_
    refine bnd h fun x6 hx6 h => ?_
    refine w_seq (e1 := [some (.p (D.int s2.1)), some (.p (D.int p_law_size)), some (.p (eS (cod "abcdefghijklmnopqrstuvwxyz"))), some (.p (eS x6)), some (.p (D.int x3))]) (w_set2 (e_op (e_v rfl) (e_w (e_ix (e_b rfl) (e_op (e_v rfl) e_c (g_modR rfl)) (x_s hx5))) (g_cat hx6)) rfl rfl) ?_
    refine w_one ?_
    refine w_seq (e1 := [some (.p (D.int (s2.1 / (26 : Int)))), some (.p (D.int p_law_size)), some (.p (eS (cod "abcdefghijklmnopqrstuvwxyz"))), some (.p (eS x6)), some (.p (D.int x3))]) (w_set2 (e_op (e_v rfl) e_c (g_divR rfl)) rfl rfl) ?_
    have h := Option.some.inj h
    subst h
    exact w_nx ⟨Or.inl rfl, ⟨_, rfl⟩⟩
  · obtain ⟨u4, rfl⟩ := he
    refine w_one ?_
    have h := Option.some.inj h
    subst h
    exact w_sret (e_m rfl) (Or.inl rfl)
def n_law_spelt (p_law_word : Nm) : Option Nm :=
  (if ((decide (p_law_word ∈ [(cod "pool"), (cod "claim"), (cod "pot"), (cod "eat"), (cod "order"), (cod "part"), (cod "pay"), (cod "share"), (cod "repay"), (cod "fill"), (cod "lend"), (cod "back")])) || (decide (p_law_word ∈ [(cod "rest"), (cod "look"), (cod "guard"), (cod "debt"), (cod "on"), (cod "late"), (cod "early"), (cod "quit")]))) = true then
  ((cutN p_law_word none (some (-(1 : Int)))).bind fun x1 =>
  (ixS p_law_word (-(1 : Int))).bind fun x2 =>
  (m1I gIndex (cod "abcdefghijklmnopqrstuvwxyz") x2).bind fun x3 =>
  (ixS (cod "abcdefghijklmnopqrstuvwxyz") ((x3 + (13 : Int)) % (26 : Int))).bind fun x4 =>
  (catS x1 x4).bind fun x5 =>
  some x5)
  else (some p_law_word))
theorem l_law_spelt {p_law_word : Nm} {r : Nm} (h : n_law_spelt p_law_word = some r) : phi_law_spelt [(eS p_law_word)] = some (.p (eS r)) := by
  unfold n_law_spelt at h
  refine runF_wp rfl ?_
  show Wp (F_law_spelt [some (.p (eS p_law_word)), none, none]) _
  unfold F_law_spelt
  refine w_seq (e1 := [some (.p (eS p_law_word)), some (.p (eS (cod "abcdefghijklmnopqrstuvwxyz"))), none]) (w_set2 (e_s "abcdefghijklmnopqrstuvwxyz") rfl rfl) ?_
  refine w_seq (e1 := [some (.p (eS p_law_word)), some (.p (eS (cod "abcdefghijklmnopqrstuvwxyz"))), some (.p (eLs eS [(cod "pool"), (cod "claim"), (cod "pot"), (cod "eat"), (cod "order"), (cod "part"), (cod "pay"), (cod "share"), (cod "repay"), (cod "fill"), (cod "lend"), (cod "back")]))]) (w_set2 (e_fz (d := (eLs eS [(cod "pool"), (cod "claim"), (cod "pot"), (cod "eat"), (cod "order"), (cod "part"), (cod "pay"), (cod "share"), (cod "repay"), (cod "fill"), (cod "lend"), (cod "back")])) (e_l (a_c (e_s "pool") (a_c (e_s "claim") (a_c (e_s "pot") (a_c (e_s "eat") (a_c (e_s "order") (a_c (e_s "part") (a_c (e_s "pay") (a_c (e_s "share") (a_c (e_s "repay") (a_c (e_s "fill") (a_c (e_s "lend") (a_c (e_s "back") a_n)))))))))))) rfl (show _ = ((oL eS [(cod "pool"), (cod "claim"), (cod "pot"), (cod "eat"), (cod "order"), (cod "part"), (cod "pay"), (cod "share"), (cod "repay"), (cod "fill"), (cod "lend"), (cod "back")]) : T) from rfl)) (oL_toD (e := eS) [(cod "pool"), (cod "claim"), (cod "pot"), (cod "eat"), (cod "order"), (cod "part"), (cod "pay"), (cod "share"), (cod "repay"), (cod "fill"), (cod "lend"), (cod "back")])) rfl rfl) ?_
  refine w_if (c_or (c_t (e_cmp (e_b rfl) (e_b rfl) (u_p _) (u_p _) (g_inL _ _))) (c_t (e_cmp (x := (eS p_law_word)) (y := (eLs eS [(cod "rest"), (cod "look"), (cod "guard"), (cod "debt"), (cod "on"), (cod "late"), (cod "early"), (cod "quit")])) (e_b rfl) (e_l (a_c (e_s "rest") (a_c (e_s "look") (a_c (e_s "guard") (a_c (e_s "debt") (a_c (e_s "on") (a_c (e_s "late") (a_c (e_s "early") (a_c (e_s "quit") a_n)))))))) rfl (show _ = ((oL eS [(cod "rest"), (cod "look"), (cod "guard"), (cod "debt"), (cod "on"), (cod "late"), (cod "early"), (cod "quit")]) : T) from rfl)) (u_p _) (oL_toD (e := eS) [(cod "rest"), (cod "look"), (cod "guard"), (cod "debt"), (cod "on"), (cod "late"), (cod "early"), (cod "quit")]) (g_inL _ _)))) h (fun hb h => ?_) (fun hb h => ?_)
  · refine bnd h fun x1 hx1 h => ?_
    refine bnd h fun x2 hx2 h => ?_
    refine bnd h fun x3 hx3 h => ?_
    refine bnd h fun x4 hx4 h => ?_
    refine bnd h fun x5 hx5 h => ?_
    have h := Option.some.inj h
    subst h
    exact w_sret (e_op (e_sl (e_b rfl) o_n (o_s (e_neg e_c)) (s_s hx1)) (e_w (e_ix (e_b rfl) (e_op (e_op (e_m1I (e_v rfl) (e_w (e_ix (e_b rfl) (e_neg e_c) (x_s hx2))) hx3) e_c rfl) e_c (g_modR rfl)) (x_s hx4))) (g_cat hx5)) (Or.inl rfl)
  · refine w_snx ?_
    refine w_one ?_
    have h := Option.some.inj h
    subst h
    exact w_sret (e_m rfl) (Or.inl rfl)
def n_law_words (p_law_cell : Int) (p_law_many : Int) (p_law_longest : Int) : Option (List Nm) :=
  (n_law_mixed p_law_cell (1 : Int)).bind fun x1 =>
  (mulN x1 x1).bind fun x2 =>
  (n_law_letters (x2 + x1) (8 : Int)).bind fun x3 =>
  (modN (x1 / (3 : Int)) p_law_longest).bind fun x4 =>
  (modN (x1 / (24 : Int)) ((1 : Int) + x4)).bind fun x5 =>
  (rng1  p_law_many).bind fun x6 =>
  (fold (fun (x8 : Int) (s7 : (List Nm)) =>
  (ixS (cod "abcdefghijklmnopqrstuvwxyz") (((x1 / (192 : Int)) + x8) % (26 : Int))).bind fun x12 =>
  ((if (decide ((x1 % (3 : Int)) = (0 : Int))) = true then
  ((cutN x3 none (some x5)).bind fun x13 =>
  (catS x13 x12).bind fun x14 =>
  (cutN x3 (some (x5 + (1 : Int))) (some ((1 : Int) + x4))).bind fun x15 =>
  (catS x14 x15).bind fun x16 =>
  some x16)
  else ((if (decide ((x1 % (3 : Int)) = (1 : Int))) = true then
  ((modN ((x1 / (24 : Int)) + x8) p_law_longest).bind fun x17 =>
  (cutN x3 none (some ((1 : Int) + x17))).bind fun x18 =>
  some x18)
  else ((n_law_mixed p_law_cell (x8 + (2 : Int))).bind fun x19 =>
  (n_law_letters x19 (7 : Int)).bind fun x20 =>
  (catS x12 x20).bind fun x21 =>
  (n_law_mixed p_law_cell (x8 + (40 : Int))).bind fun x22 =>
  (modN x22 p_law_longest).bind fun x23 =>
  (cutN x21 none (some ((1 : Int) + x23))).bind fun x24 =>
  some x24)))) : Option Nm).bind fun s25 =>
  (n_law_spelt s25).bind fun x26 =>
  (push s7 x26).bind fun x27 =>
  some x27) x6 ([] : List Nm)).bind fun s28 =>
  (if (decide (((x1 / (5000 : Int)) % (2 : Int)) = (1 : Int))) = true then
  (some s28.reverse)
  else (some s28))
theorem l_law_words {p_law_cell : Int} {p_law_many : Int} {p_law_longest : Int} {r : List Nm} (h : n_law_words p_law_cell p_law_many p_law_longest = some r) : phi_law_words [(D.int p_law_cell), (D.int p_law_many), (D.int p_law_longest)] = some (oL eS r) := by
  unfold n_law_words at h
  refine runF_wp rfl ?_
  show Wp (F_law_words [some (.p (D.int p_law_cell)), some (.p (D.int p_law_many)), some (.p (D.int p_law_longest)), none, none, none, none, none, none, none, none, none]) _
  unfold F_law_words
  refine w_seq (e1 := [some (.p (D.int p_law_cell)), some (.p (D.int p_law_many)), some (.p (D.int p_law_longest)), some (.p (eS (cod "abcdefghijklmnopqrstuvwxyz"))), none, none, none, none, none, none, none, none]) (w_set2 (e_s "abcdefghijklmnopqrstuvwxyz") rfl rfl) ?_
  refine bnd h fun x1 hx1 h => ?_
  refine w_seq (e1 := [some (.p (D.int p_law_cell)), some (.p (D.int p_law_many)), some (.p (D.int p_law_longest)), some (.p (eS (cod "abcdefghijklmnopqrstuvwxyz"))), some (.p (D.int x1)), none, none, none, none, none, none, none]) (w_set2 (e_fz (d := (D.int x1)) (e_call (a_c (e_v rfl) (a_c e_c a_n)) rfl (l_law_mixed hx1)) (u_p _)) rfl rfl) ?_
  refine bnd h fun x2 hx2 h => ?_
  refine bnd h fun x3 hx3 h => ?_
  refine w_seq (e1 := [some (.p (D.int p_law_cell)), some (.p (D.int p_law_many)), some (.p (D.int p_law_longest)), some (.p (eS (cod "abcdefghijklmnopqrstuvwxyz"))), some (.p (D.int x1)), some (.p (eS x3)), none, none, none, none, none, none]) (w_set2 (e_call (a_c (e_op (e_op (e_v rfl) (e_v rfl) (g_mul hx2)) (e_v rfl) rfl) (a_c e_c a_n)) rfl (l_law_letters hx3)) rfl rfl) ?_
  refine bnd h fun x4 hx4 h => ?_
  refine w_seq (e1 := [some (.p (D.int p_law_cell)), some (.p (D.int p_law_many)), some (.p (D.int p_law_longest)), some (.p (eS (cod "abcdefghijklmnopqrstuvwxyz"))), some (.p (D.int x1)), some (.p (eS x3)), some (.p (D.int ((1 : Int) + x4))), none, none, none, none, none]) (w_set2 (e_op e_c (e_op (e_op (e_v rfl) e_c (g_divR rfl)) (e_v rfl) (g_mod hx4)) rfl) rfl rfl) ?_
  refine bnd h fun x5 hx5 h => ?_
  refine w_seq (e1 := [some (.p (D.int p_law_cell)), some (.p (D.int p_law_many)), some (.p (D.int p_law_longest)), some (.p (eS (cod "abcdefghijklmnopqrstuvwxyz"))), some (.p (D.int x1)), some (.p (eS x3)), some (.p (D.int ((1 : Int) + x4))), some (.p (D.int x5)), none, none, none, none]) (w_set2 (e_op (e_op (e_v rfl) e_c (g_divR rfl)) (e_v rfl) (g_mod hx5)) rfl rfl) ?_
  refine w_seq (e1 := [some (.p (D.int p_law_cell)), some (.p (D.int p_law_many)), some (.p (D.int p_law_longest)), some (.p (eS (cod "abcdefghijklmnopqrstuvwxyz"))), some (.p (D.int x1)), some (.p (eS x3)), some (.p (D.int ((1 : Int) + x4))), some (.p (D.int x5)), some (oL eS ([] : List Nm)), none, none, none]) (w_set2 (e_l a_n rfl rfl) rfl rfl) ?_
  refine bnd h fun x6 hx6 h => ?_
  refine bnd h fun s28 hs28 h => ?_
  refine w_for (P := (fun e => ∃ u9, ∃ u10, ∃ u11, e = [some (.p (D.int p_law_cell)), some (.p (D.int p_law_many)), some (.p (D.int p_law_longest)), some (.p (eS (cod "abcdefghijklmnopqrstuvwxyz"))), some (.p (D.int x1)), some (.p (eS x3)), some (.p (D.int ((1 : Int) + x4))), some (.p (D.int x5)), some (oL eS s28), u9, u10, u11])) (i_r1 (a_c (e_v rfl) a_n) hx6) (loop_fold (dd := D.int) (fun (s7 : (List Nm)) e => ∃ u9, ∃ u10, ∃ u11, e = [some (.p (D.int p_law_cell)), some (.p (D.int p_law_many)), some (.p (D.int p_law_longest)), some (.p (eS (cod "abcdefghijklmnopqrstuvwxyz"))), some (.p (D.int x1)), some (.p (eS x3)), some (.p (D.int ((1 : Int) + x4))), some (.p (D.int x5)), some (oL eS s7), u9, u10, u11]) ?_ _ _ _ _ ⟨_, _, _, rfl⟩ hs28) (fun e he => ?_)
  · intro x8 s7 sN env hR h
    obtain ⟨u9, u10, u11, rfl⟩ := hR
    refine ⟨_, rfl, ?_⟩
    unfold B_law_words_1
    refine bnd h fun x12 hx12 h => ?_
    refine w_seq (e1 := [some (.p (D.int p_law_cell)), some (.p (D.int p_law_many)), some (.p (D.int p_law_longest)), some (.p (eS (cod "abcdefghijklmnopqrstuvwxyz"))), some (.p (D.int x1)), some (.p (eS x3)), some (.p (D.int ((1 : Int) + x4))), some (.p (D.int x5)), some (oL eS s7), some (.p (D.int x8)), some (.p (eS x12)), u11]) (w_set2 (e_w (e_ix (e_b rfl) (e_op (e_op (e_op (e_v rfl) e_c (g_divR rfl)) (e_v rfl) rfl) e_c (g_modR rfl)) (x_s hx12))) rfl rfl) ?_
    refine bnd h fun s25 hs25 h => ?_
    refine w_join (P := (fun e => e = [some (.p (D.int p_law_cell)), some (.p (D.int p_law_many)), some (.p (D.int p_law_longest)), some (.p (eS (cod "abcdefghijklmnopqrstuvwxyz"))), some (.p (D.int x1)), some (.p (eS x3)), some (.p (D.int ((1 : Int) + x4))), some (.p (D.int x5)), some (oL eS s7), some (.p (D.int x8)), some (.p (eS x12)), some (.p (eS s25))])) ?_ (fun e he => ?_)
    · have h := hs25
      refine w_one ?_
      refine w_if (c_t (e_cmp (e_op (e_v rfl) e_c (g_modR rfl)) e_c (u_p _) (u_p _) eqQ_i)) h (fun hb h => ?_) (fun hb h => ?_)
      · refine w_un ?_
        refine w_one ?_
        refine bnd h fun x13 hx13 h => ?_
        refine bnd h fun x14 hx14 h => ?_
        refine bnd h fun x15 hx15 h => ?_
        refine bnd h fun x16 hx16 h => ?_
        refine w_seq (e1 := [some (.p (D.int p_law_cell)), some (.p (D.int p_law_many)), some (.p (D.int p_law_longest)), some (.p (eS (cod "abcdefghijklmnopqrstuvwxyz"))), some (.p (D.int x1)), some (.p (eS x3)), some (.p (D.int ((1 : Int) + x4))), some (.p (D.int x5)), some (oL eS s7), some (.p (D.int x8)), some (.p (eS x12)), some (.p (eS x16))]) (w_set2 (e_op (e_op (e_sl (e_b rfl) o_n (o_s (e_v rfl)) (s_s hx13)) (e_v rfl) (g_cat hx14)) (e_sl (e_b rfl) (o_s (e_op (e_v rfl) e_c rfl)) (o_s (e_v rfl)) (s_s hx15)) (g_cat hx16)) rfl rfl) ?_
        have h := Option.some.inj h
        subst h
        exact w_nx ⟨rfl, rfl⟩
      · refine w_un ?_
        refine w_one ?_
        refine w_if (c_t (e_cmp (e_op (e_v rfl) e_c (g_modR rfl)) e_c (u_p _) (u_p _) eqQ_i)) h (fun hb h => ?_) (fun hb h => ?_)
        · refine bnd h fun x17 hx17 h => ?_
          refine bnd h fun x18 hx18 h => ?_
          refine w_seq (e1 := [some (.p (D.int p_law_cell)), some (.p (D.int p_law_many)), some (.p (D.int p_law_longest)), some (.p (eS (cod "abcdefghijklmnopqrstuvwxyz"))), some (.p (D.int x1)), some (.p (eS x3)), some (.p (D.int ((1 : Int) + x4))), some (.p (D.int x5)), some (oL eS s7), some (.p (D.int x8)), some (.p (eS x12)), some (.p (eS x18))]) (w_set2 (e_sl (e_b rfl) o_n (o_s (e_op e_c (e_op (e_op (e_op (e_v rfl) e_c (g_divR rfl)) (e_v rfl) rfl) (e_v rfl) (g_mod hx17)) rfl)) (s_s hx18)) rfl rfl) ?_
          have h := Option.some.inj h
          subst h
          exact w_nx ⟨rfl, rfl⟩
        · refine bnd h fun x19 hx19 h => ?_
          refine bnd h fun x20 hx20 h => ?_
          refine bnd h fun x21 hx21 h => ?_
          refine bnd h fun x22 hx22 h => ?_
          refine bnd h fun x23 hx23 h => ?_
          refine bnd h fun x24 hx24 h => ?_
          refine w_seq (e1 := [some (.p (D.int p_law_cell)), some (.p (D.int p_law_many)), some (.p (D.int p_law_longest)), some (.p (eS (cod "abcdefghijklmnopqrstuvwxyz"))), some (.p (D.int x1)), some (.p (eS x3)), some (.p (D.int ((1 : Int) + x4))), some (.p (D.int x5)), some (oL eS s7), some (.p (D.int x8)), some (.p (eS x12)), some (.p (eS x24))]) (w_set2 (e_sl (e_op (e_v rfl) (e_call (a_c (e_call (a_c (e_v rfl) (a_c (e_op (e_v rfl) e_c rfl) a_n)) rfl (l_law_mixed hx19)) (a_c e_c a_n)) rfl (l_law_letters hx20)) (g_cat hx21)) o_n (o_s (e_op e_c (e_op (e_call (a_c (e_v rfl) (a_c (e_op (e_v rfl) e_c rfl) a_n)) rfl (l_law_mixed hx22)) (e_v rfl) (g_mod hx23)) rfl)) (s_s hx24)) rfl rfl) ?_
          have h := Option.some.inj h
          subst h
          exact w_nx ⟨rfl, rfl⟩
    · subst he
      refine w_one ?_
      refine bnd h fun x26 hx26 h => ?_
      refine bnd h fun x27 hx27 h => ?_
      refine w_seq (e1 := [some (.p (D.int p_law_cell)), some (.p (D.int p_law_many)), some (.p (D.int p_law_longest)), some (.p (eS (cod "abcdefghijklmnopqrstuvwxyz"))), some (.p (D.int x1)), some (.p (eS x3)), some (.p (D.int ((1 : Int) + x4))), some (.p (D.int x5)), some (oL eS x27), some (.p (D.int x8)), some (.p (eS x12)), some (.p (eS s25))]) (w_appL2 (dd := eS) rfl (e_call (a_c (e_v rfl) a_n) rfl (l_law_spelt hx26)) rfl hx27 rfl) ?_
      have h := Option.some.inj h
      subst h
      exact w_nx ⟨Or.inl rfl, ⟨_, _, _, rfl⟩⟩
  · obtain ⟨u9, u10, u11, rfl⟩ := he
    refine w_if (c_t (e_cmp (e_op (e_op (e_v rfl) e_c (g_divR rfl)) e_c (g_modR rfl)) e_c (u_p _) (u_p _) eqQ_i)) h (fun hb h => ?_) (fun hb h => ?_)
    · have h := Option.some.inj h
      subst h
      exact w_sret (e_listRev (e_b rfl) (it_o _ _) rfl) (Or.inl rfl)
    · refine w_snx ?_
      refine w_one ?_
      have h := Option.some.inj h
      subst h
      exact w_sret (e_m rfl) (Or.inl rfl)
def n_law_deal (p_law_script : List Int) : Option (List R2) :=
  (n_law_cell_at p_law_script (0 : Int)).bind fun x1 =>
  (n_law_mixed x1 (1 : Int)).bind fun x2 =>
  (n_law_cell_at p_law_script (0 : Int)).bind fun x3 =>
  (n_law_words x3 ((2 : Int) + (x2 % (5 : Int))) (7 : Int)).bind fun x4 =>
  (compO (fun (x5 : Nm) => (rng1  ((1 : Int) + ((x2 / (5 : Int)) % (3 : Int)))).bind fun x6 =>
  (compO (fun (x7 : Int) => (catS x5 (cod "b")).bind fun x8 =>
  some [eTSS ((cod "rest"), x8)]) x6).bind fun c9 =>
  some c9) x4).bind fun c10 =>
  (fold (fun (x12 : TII) (s11 : (List (List (List D)))) =>
  (n_law_mixed x12.2 (x12.1 + (2 : Int))).bind fun x20 =>
  (modN x20 ((2 : Int) + (x2 % (5 : Int)))).bind fun x21 =>
  (modN (x20 / (6 : Int)) (((2 : Int) + (x2 % (5 : Int))) - (1 : Int))).bind fun x22 =>
  (modN ((x21 + (1 : Int)) + x22) ((2 : Int) + (x2 % (5 : Int)))).bind fun x23 =>
  (ixN s11.length x21).bind fun x24 =>
  (s11[x24]?).bind fun x25 =>
  (atI s11 x21).bind fun x26 =>
  (modN (x20 / (30 : Int)) (x26.length : Int)).bind fun x27 =>
  (ixN x25.length x27).bind fun x28 =>
  (x25[x28]?).bind fun x29 =>
  (((atI x4 x23).bind fun x31 =>
  (catS x31 (cod "a")).bind fun x32 =>
  ((if (decide (((x20 / (90 : Int)) % (3 : Int)) = (0 : Int))) = true then
  ((atI x4 x23).bind fun x33 =>
  (catS x33 (cod "a")).bind fun x34 =>
  some (eTSS ((cod "back"), x34)))
  else (some (eTSSI ((cod "lend"), x32, ((1 : Int) + (x20 % (1000000000 : Int))))))) : Option D).bind fun s35 =>
  (if ((decide (((x20 / (270 : Int)) % (4 : Int)) = (0 : Int))) && (decide ((x29.length : Int) < (5 : Int)))) = true then
  ((modN (x20 / (1080 : Int)) (x29.length : Int)).bind fun x36 =>
  (insN x29 x36 s35).bind fun x37 =>
  some (s11.set x24 (x25.set x28 x37)))
  else (some (s11.set x24 (x25.set x28 x29))))) : Option (List (List (List D)))).bind fun s38 =>
  some s38) (enumN 0 (cutA p_law_script none (some (64 : Int)))) c10).bind fun s39 =>
  (rng1  ((2 : Int) + (x2 % (5 : Int)))).bind fun x40 =>
  (fold (fun (x42 : Int) (s41 : (List R2)) =>
  (atI x4 x42).bind fun x46 =>
  (catS x46 (cod "b")).bind fun x47 =>
  (atI s39 x42).bind fun x48 =>
  (rng1  (x48.length : Int)).bind fun x49 =>
  (compO (fun (x50 : Int) => (ixS (cod "abc") x50).bind fun x51 =>
  (atI s39 x42).bind fun x52 =>
  (atI x52 x50).bind fun x53 =>
  some (x51, ([] : List D), x53)) x49).bind fun c54 =>
  (atI x4 x42).bind fun x55 =>
  (catS x55 (cod "a")).bind fun x56 =>
  (push s41 (x56, [(x47, ((1 : Int) + (x2 % (100 : Int))), (1 : Int))], ([] : List D), ([] : List D), c54, ([] : List D), ([] : List D))).bind fun x57 =>
  some x57) x40 ([] : List R2)).bind fun s58 =>
  some s58
theorem l_law_deal {p_law_script : List Int} {r : List R2} (h : n_law_deal p_law_script = some r) : phi_law_deal [(eLs D.int p_law_script)] = some (oL eR2 r) := by
  unfold n_law_deal at h
  refine runF_wp rfl ?_
  show Wp (F_law_deal [some (.p (eLs D.int p_law_script)), none, none, none, none, none, none, none, none, none, none, none, none, none, none, none, none]) _
  unfold F_law_deal
  refine bnd h fun x1 hx1 h => ?_
  refine bnd h fun x2 hx2 h => ?_
  refine w_seq (e1 := [some (.p (eLs D.int p_law_script)), some (.p (D.int x2)), none, none, none, none, none, none, none, none, none, none, none, none, none, none, none]) (w_set2 (e_fz (d := (D.int x2)) (e_call (a_c (e_call (a_c (e_v rfl) (a_c e_c a_n)) rfl (l_law_cell_at hx1)) (a_c e_c a_n)) rfl (l_law_mixed hx2)) (u_p _)) rfl rfl) ?_
  refine w_seq (e1 := [some (.p (eLs D.int p_law_script)), some (.p (D.int x2)), some (.p (D.int ((2 : Int) + (x2 % (5 : Int))))), none, none, none, none, none, none, none, none, none, none, none, none, none, none]) (w_set2 (e_op e_c (e_op (e_v rfl) e_c (g_modR rfl)) rfl) rfl rfl) ?_
  refine bnd h fun x3 hx3 h => ?_
  refine bnd h fun x4 hx4 h => ?_
  refine w_seq (e1 := [some (.p (eLs D.int p_law_script)), some (.p (D.int x2)), some (.p (D.int ((2 : Int) + (x2 % (5 : Int))))), some (.p (eLs eS x4)), none, none, none, none, none, none, none, none, none, none, none, none, none]) (w_set2 (e_fz (d := (eLs eS x4)) (e_call (a_c (e_call (a_c (e_v rfl) (a_c e_c a_n)) rfl (l_law_cell_at hx3)) (a_c (e_v rfl) (a_c e_c a_n))) rfl (l_law_words hx4)) (oL_toD (e := eS) x4)) rfl rfl) ?_
  refine bnd h fun c10 hc10 h => ?_
  refine w_seq (e1 := [some (.p (eLs D.int p_law_script)), some (.p (D.int x2)), some (.p (D.int ((2 : Int) + (x2 % (5 : Int))))), some (.p (eLs eS x4)), some (oE (oE (oL eD)) c10), none, none, none, none, none, none, none, none, none, none, none, none]) (w_set2 (e_comp (w := [some (.p (eLs D.int p_law_script)), some (.p (D.int x2)), some (.p (D.int ((2 : Int) + (x2 % (5 : Int))))), some (.p (eLs eS x4)), none, none, none, none, none, none, none, none, none, none, none, none, none]) (dd := eS) (E := (oE (oL eD))) (i_l (e_v rfl)) rfl ((compO_F _ _).symm.trans hc10) (fun x5 => ⟨_, rfl, _, rfl, (fun hp => nomatch hp), fun y hp h => by
    refine bnd h fun x6 hx6 h => ?_
    refine bnd h fun c9 hc9 h => ?_
    have h := Option.some.inj h; subst h
    exact ⟨_, (e_comp (w := [some (.p (eLs D.int p_law_script)), some (.p (D.int x2)), some (.p (D.int ((2 : Int) + (x2 % (5 : Int))))), some (.p (eLs eS x4)), none, some (.p (eS x5)), none, none, none, none, none, none, none, none, none, none, none]) (dd := D.int) (E := (oL eD)) (i_r1 (a_c (e_op e_c (e_op (e_op (e_v rfl) e_c (g_divR rfl)) e_c (g_modR rfl)) rfl) a_n) hx6) rfl ((compO_F _ _).symm.trans hc9) (fun x7 => ⟨_, rfl, _, rfl, (fun hp => nomatch hp), fun y hp h => by
    refine bnd h fun x8 hx8 h => ?_
    have h := Option.some.inj h; subst h
    exact ⟨_, (e_l (a_c (e_t (a_c (e_s "rest") (a_c (e_op (e_v rfl) (e_s "b") (g_cat hx8)) a_n)) rfl (show _ = ((.p (eTSS ((cod "rest"), x8))) : T) from rfl)) a_n) rfl (show _ = ((oL eD [eTSS ((cod "rest"), x8)]) : T) from rfl)), rfl⟩⟩)), rfl⟩⟩)) rfl rfl) ?_
  refine bnd h fun s39 hs39 h => ?_
  refine w_for (P := (fun e => ∃ u13, ∃ u14, ∃ u15, ∃ u16, ∃ u17, ∃ u18, ∃ u19, e = [some (.p (eLs D.int p_law_script)), some (.p (D.int x2)), some (.p (D.int ((2 : Int) + (x2 % (5 : Int))))), some (.p (eLs eS x4)), some (oE (oE (oL eD)) s39), none, u13, u14, u15, u16, u17, u18, u19, none, none, none, none])) (i_en (a_c (e_fz (d := (eLs D.int (cutA p_law_script none (some (64 : Int))))) (e_sl (e_b rfl) o_n (o_s e_c) s_l) (oL_toD (e := D.int) (cutA p_law_script none (some (64 : Int))))) a_n)) (loop_fold (dd := eTII) (fun (s11 : (List (List (List D)))) e => ∃ u13, ∃ u14, ∃ u15, ∃ u16, ∃ u17, ∃ u18, ∃ u19, e = [some (.p (eLs D.int p_law_script)), some (.p (D.int x2)), some (.p (D.int ((2 : Int) + (x2 % (5 : Int))))), some (.p (eLs eS x4)), some (oE (oE (oL eD)) s11), none, u13, u14, u15, u16, u17, u18, u19, none, none, none, none]) ?_ _ _ _ _ ⟨_, _, _, _, _, _, _, rfl⟩ hs39) (fun e he => ?_)
  · intro x12 s11 sN env hR h
    obtain ⟨u13, u14, u15, u16, u17, u18, u19, rfl⟩ := hR
    refine ⟨_, rfl, ?_⟩
    unfold B_law_deal_1
    refine bnd h fun x20 hx20 h => ?_
    refine w_seq (e1 := [some (.p (eLs D.int p_law_script)), some (.p (D.int x2)), some (.p (D.int ((2 : Int) + (x2 % (5 : Int))))), some (.p (eLs eS x4)), some (oE (oE (oL eD)) s11), none, some (.p (D.int x12.1)), some (.p (D.int x12.2)), some (.p (D.int x20)), u16, u17, u18, u19, none, none, none, none]) (w_set2 (e_fz (d := (D.int x20)) (e_call (a_c (e_v rfl) (a_c (e_op (e_v rfl) e_c rfl) a_n)) rfl (l_law_mixed hx20)) (u_p _)) rfl rfl) ?_
    refine bnd h fun x21 hx21 h => ?_
    refine w_seq (e1 := [some (.p (eLs D.int p_law_script)), some (.p (D.int x2)), some (.p (D.int ((2 : Int) + (x2 % (5 : Int))))), some (.p (eLs eS x4)), some (oE (oE (oL eD)) s11), none, some (.p (D.int x12.1)), some (.p (D.int x12.2)), some (.p (D.int x20)), some (.p (D.int x21)), u17, u18, u19, none, none, none, none]) (w_set2 (e_op (e_v rfl) (e_v rfl) (g_mod hx21)) rfl rfl) ?_
    refine bnd h fun x22 hx22 h => ?_
    refine bnd h fun x23 hx23 h => ?_
    refine w_seq (e1 := [some (.p (eLs D.int p_law_script)), some (.p (D.int x2)), some (.p (D.int ((2 : Int) + (x2 % (5 : Int))))), some (.p (eLs eS x4)), some (oE (oE (oL eD)) s11), none, some (.p (D.int x12.1)), some (.p (D.int x12.2)), some (.p (D.int x20)), some (.p (D.int x21)), some (.p (D.int x23)), u18, u19, none, none, none, none]) (w_set2 (e_op (e_op (e_op (e_v rfl) e_c rfl) (e_op (e_op (e_v rfl) e_c (g_divR rfl)) (e_op (e_v rfl) e_c rfl) (g_mod hx22)) rfl) (e_v rfl) (g_mod hx23)) rfl rfl) ?_
    refine w_one ?_
    refine bnd h fun x24 hx24 h => ?_
    refine bnd h fun x25 hx25 h => ?_
    refine bnd h fun x26 hx26 h => ?_
    refine bnd h fun x27 hx27 h => ?_
    refine bnd h fun x28 hx28 h => ?_
    refine bnd h fun x29 hx29 h => ?_
    refine bnd h fun s38 hs38 h => ?_
    refine w_alW2 (E := (oL eD)) (xss := s11) (rs := x25) (ys := s38) (u := x29) (ws := [12]) (e' := [some (.p (eLs D.int p_law_script)), some (.p (D.int x2)), some (.p (D.int ((2 : Int) + (x2 % (5 : Int))))), some (.p (eLs eS x4)), some (oE (oE (oL eD)) s38), none, some (.p (D.int x12.1)), some (.p (D.int x12.2)), some (.p (D.int x20)), some (.p (D.int x21)), some (.p (D.int x23)), none, none, none, none, none, none]) (envA := fun a30 => [some (.p (eLs D.int p_law_script)), some (.p (D.int x2)), some (.p (D.int ((2 : Int) + (x2 % (5 : Int))))), some (.p (eLs eS x4)), some (oHH (oL eD) s11 x24 x28 x25 (.al (a30 + 1))), none, some (.p (D.int x12.1)), some (.p (D.int x12.2)), some (.p (D.int x20)), some (.p (D.int x21)), some (.p (D.int x23)), some (oL eD x29), u19, none, none, none, none]) (p_ixE2 (E := (oL eD)) (p_ixE (E := (oE (oL eD))) (pl_nm rfl) (e_v rfl) rfl hx24 hx25) (e_op (e_op (e_v rfl) e_c (g_divR rfl)) (e_b1 (e_ix (e_b rfl) (e_v rfl) (x_e hx26)) (g_lenE _ _)) (g_mod hx27)) rfl hx25 hx28 hx29) rfl hx25 hx29 rfl (by decide) (of_decide_eq_true rfl) (fun _ => rfl) (fun a30 => ?_) ?_
    · have h := hs38
      show Wp _ _
      refine bnd h fun x31 hx31 h => ?_
      refine bnd h fun x32 hx32 h => ?_
      refine w_seq (e1 := [some (.p (eLs D.int p_law_script)), some (.p (D.int x2)), some (.p (D.int ((2 : Int) + (x2 % (5 : Int))))), some (.p (eLs eS x4)), some (oHH (oL eD) s11 x24 x28 x25 (.al (a30 + 1))), none, some (.p (D.int x12.1)), some (.p (D.int x12.2)), some (.p (D.int x20)), some (.p (D.int x21)), some (.p (D.int x23)), some (oL eD x29), some (.p (eTSSI ((cod "lend"), x32, ((1 : Int) + (x20 % (1000000000 : Int)))))), none, none, none, none]) (w_set2 (e_fz (d := (eTSSI ((cod "lend"), x32, ((1 : Int) + (x20 % (1000000000 : Int)))))) (e_t (a_c (e_s "lend") (a_c (e_op (e_w (e_ix (e_b rfl) (e_v rfl) (x_l hx31))) (e_s "a") (g_cat hx32)) (a_c (e_op e_c (e_op (e_v rfl) (e_op e_c e_c ((g_powR rfl).trans (congrArg (fun z => some (D.int z)) (show (10 : Int) ^ Int.toNat 9 = (1000000000 : Int) from by decide)))) (g_modR rfl)) rfl) a_n))) rfl (show _ = ((.p (eTSSI ((cod "lend"), x32, ((1 : Int) + (x20 % (1000000000 : Int)))))) : T) from rfl)) (u_p _)) rfl rfl) ?_
      refine bnd h fun s35 hs35 h => ?_
      refine w_join (P := (fun e => e = [some (.p (eLs D.int p_law_script)), some (.p (D.int x2)), some (.p (D.int ((2 : Int) + (x2 % (5 : Int))))), some (.p (eLs eS x4)), some (oHH (oL eD) s11 x24 x28 x25 (.al (a30 + 1))), none, some (.p (D.int x12.1)), some (.p (D.int x12.2)), some (.p (D.int x20)), some (.p (D.int x21)), some (.p (D.int x23)), some (oL eD x29), some (.p s35), none, none, none, none])) ?_ (fun e he => ?_)
      · have h := hs35
        refine w_one ?_
        refine w_if (c_t (e_cmp (e_op (e_op (e_v rfl) e_c (g_divR rfl)) e_c (g_modR rfl)) e_c (u_p _) (u_p _) eqQ_i)) h (fun hb h => ?_) (fun hb h => ?_)
        · refine w_un ?_
          refine w_one ?_
          refine bnd h fun x33 hx33 h => ?_
          refine bnd h fun x34 hx34 h => ?_
          refine w_seq (e1 := [some (.p (eLs D.int p_law_script)), some (.p (D.int x2)), some (.p (D.int ((2 : Int) + (x2 % (5 : Int))))), some (.p (eLs eS x4)), some (oHH (oL eD) s11 x24 x28 x25 (.al (a30 + 1))), none, some (.p (D.int x12.1)), some (.p (D.int x12.2)), some (.p (D.int x20)), some (.p (D.int x21)), some (.p (D.int x23)), some (oL eD x29), some (.p (eTSS ((cod "back"), x34))), none, none, none, none]) (w_set2 (e_fz (d := (eTSS ((cod "back"), x34))) (e_t (a_c (e_s "back") (a_c (e_op (e_w (e_ix (e_b rfl) (e_v rfl) (x_l hx33))) (e_s "a") (g_cat hx34)) a_n)) rfl (show _ = ((.p (eTSS ((cod "back"), x34))) : T) from rfl)) (u_p _)) rfl rfl) ?_
          have h := Option.some.inj h
          subst h
          exact w_nx ⟨rfl, rfl⟩
        · refine w_un ?_
          have h := Option.some.inj h
          subst h
          exact w_nx ⟨rfl, rfl⟩
      · subst he
        refine w_one ?_
        refine w_if (c_and (c_t (e_cmp (e_op (e_op (e_v rfl) e_c (g_divR rfl)) e_c (g_modR rfl)) e_c (u_p _) (u_p _) eqQ_i)) (c_t (e_cmp (e_b1 (e_b rfl) (g_lenO _ _)) e_c (u_p _) (u_p _) rfl))) h (fun hb h => ?_) (fun hb h => ?_)
        · refine bnd h fun x36 hx36 h => ?_
          refine bnd h fun x37 hx37 h => ?_
          refine w_seq (e1 := [some (.p (eLs D.int p_law_script)), some (.p (D.int x2)), some (.p (D.int ((2 : Int) + (x2 % (5 : Int))))), some (.p (eLs eS x4)), some (oHH (oL eD) s11 x24 x28 x25 (.al (a30 + 1))), none, some (.p (D.int x12.1)), some (.p (D.int x12.2)), some (.p (D.int x20)), some (.p (D.int x21)), some (.p (D.int x23)), some (oL eD x37), some (.p s35), none, none, none, none]) (w_insP (dd := eD) rfl (a_c (e_op (e_op (e_v rfl) e_c (g_divR rfl)) (e_b1 (e_b rfl) (g_lenO _ _)) (g_mod hx36)) (a_c (e_v rfl) a_n)) rfl hx37 rfl) ?_
          exact w_nx ⟨rfl, _, rfl, rfl, h, rfl⟩
        · refine w_snx ?_
          exact w_nx ⟨rfl, _, rfl, rfl, h, rfl⟩
    · have h := Option.some.inj h
      subst h
      exact w_nx ⟨Or.inl rfl, ⟨_, _, _, _, _, _, _, rfl⟩⟩
  · obtain ⟨u13, u14, u15, u16, u17, u18, u19, rfl⟩ := he
    refine w_one ?_
    refine w_un ?_
    refine w_fzN (d := (eLs (eLs (eLs eD)) s39)) (e' := [some (.p (eLs D.int p_law_script)), some (.p (D.int x2)), some (.p (D.int ((2 : Int) + (x2 % (5 : Int))))), some (.p (eLs eS x4)), some (.p (eLs (eLs (eLs eD)) s39)), none, u13, u14, u15, u16, u17, u18, u19, none, none, none, none]) rfl (oE_toD (fun _ => (oE_toD (fun _ => (oL_toD _)) _)) _) rfl ?_
    refine w_seq (e1 := [some (.p (eLs D.int p_law_script)), some (.p (D.int x2)), some (.p (D.int ((2 : Int) + (x2 % (5 : Int))))), some (.p (eLs eS x4)), some (.p (eLs (eLs (eLs eD)) s39)), none, u13, u14, u15, u16, u17, u18, u19, some (oL eR2 ([] : List R2)), none, none, none]) (w_set2 (e_l a_n rfl rfl) rfl rfl) ?_
    refine bnd h fun x40 hx40 h => ?_
    refine bnd h fun s58 hs58 h => ?_
    refine w_for (P := (fun e => ∃ u43, ∃ u44, ∃ u45, e = [some (.p (eLs D.int p_law_script)), some (.p (D.int x2)), some (.p (D.int ((2 : Int) + (x2 % (5 : Int))))), some (.p (eLs eS x4)), some (.p (eLs (eLs (eLs eD)) s39)), none, u43, u14, u15, u16, u17, u18, u19, some (oL eR2 s58), u44, u45, none])) (i_r1 (a_c (e_v rfl) a_n) hx40) (loop_fold (dd := D.int) (fun (s41 : (List R2)) e => ∃ u43, ∃ u44, ∃ u45, e = [some (.p (eLs D.int p_law_script)), some (.p (D.int x2)), some (.p (D.int ((2 : Int) + (x2 % (5 : Int))))), some (.p (eLs eS x4)), some (.p (eLs (eLs (eLs eD)) s39)), none, u43, u14, u15, u16, u17, u18, u19, some (oL eR2 s41), u44, u45, none]) ?_ _ _ _ _ ⟨_, _, _, rfl⟩ hs58) (fun e he => ?_)
    · intro x42 s41 sN env hR h
      obtain ⟨u43, u44, u45, rfl⟩ := hR
      refine ⟨_, rfl, ?_⟩
      unfold B_law_deal_2
      refine bnd h fun x46 hx46 h => ?_
      refine bnd h fun x47 hx47 h => ?_
      refine w_seq (e1 := [some (.p (eLs D.int p_law_script)), some (.p (D.int x2)), some (.p (D.int ((2 : Int) + (x2 % (5 : Int))))), some (.p (eLs eS x4)), some (.p (eLs (eLs (eLs eD)) s39)), none, some (.p (D.int x42)), u14, u15, u16, u17, u18, u19, some (oL eR2 s41), some (.p (eS x47)), u45, none]) (w_set2 (e_op (e_w (e_ix (e_b rfl) (e_v rfl) (x_l hx46))) (e_s "b") (g_cat hx47)) rfl rfl) ?_
      refine bnd h fun x48 hx48 h => ?_
      refine bnd h fun x49 hx49 h => ?_
      refine bnd h fun c54 hc54 h => ?_
      refine w_seq (e1 := [some (.p (eLs D.int p_law_script)), some (.p (D.int x2)), some (.p (D.int ((2 : Int) + (x2 % (5 : Int))))), some (.p (eLs eS x4)), some (.p (eLs (eLs (eLs eD)) s39)), none, some (.p (D.int x42)), u14, u15, u16, u17, u18, u19, some (oL eR2 s41), some (.p (eS x47)), some (oE (fun v => (.tup [(.p (eS v.1)), (oL eD v.2.1), (.p (eLs eD v.2.2))])) c54), none]) (w_set2 (e_comp (w := [some (.p (eLs D.int p_law_script)), some (.p (D.int x2)), some (.p (D.int ((2 : Int) + (x2 % (5 : Int))))), some (.p (eLs eS x4)), some (.p (eLs (eLs (eLs eD)) s39)), none, some (.p (D.int x42)), u14, u15, u16, u17, u18, u19, some (oL eR2 s41), some (.p (eS x47)), u45, none]) (dd := D.int) (E := (fun v => (.tup [(.p (eS v.1)), (oL eD v.2.1), (.p (eLs eD v.2.2))]))) (i_r1 (a_c (e_b1 (e_ix (e_b rfl) (e_v rfl) (x_l hx48)) (g_lenL _ _)) a_n) hx49) rfl ((compO_F _ _).symm.trans hc54) (fun x50 => ⟨_, rfl, _, rfl, (fun hp => nomatch hp), fun y hp h => by
    refine bnd h fun x51 hx51 h => ?_
    refine bnd h fun x52 hx52 h => ?_
    refine bnd h fun x53 hx53 h => ?_
    have h := Option.some.inj h; subst h
    exact ⟨_, (e_t (a_c (e_w (e_ix (e_s "abc") (e_v rfl) (x_s hx51))) (a_c (e_l a_n rfl rfl) (a_c (e_w (e_ix (e_ix (e_b rfl) (e_v rfl) (x_l hx52)) (e_v rfl) (x_l hx53))) a_n))) rfl (show _ = ((.tup [(.p (eS ((x51, ([] : List D), x53).1))), (oL eD ((x51, ([] : List D), x53).2.1)), (.p (eLs eD ((x51, ([] : List D), x53).2.2)))]) : T) from rfl)), rfl⟩⟩)) rfl rfl) ?_
      refine w_one ?_
      refine bnd h fun x55 hx55 h => ?_
      refine bnd h fun x56 hx56 h => ?_
      refine bnd h fun x57 hx57 h => ?_
      refine w_seq (e1 := [some (.p (eLs D.int p_law_script)), some (.p (D.int x2)), some (.p (D.int ((2 : Int) + (x2 % (5 : Int))))), some (.p (eLs eS x4)), some (.p (eLs (eLs (eLs eD)) s39)), none, some (.p (D.int x42)), u14, u15, u16, u17, u18, u19, some (oL eR2 x57), some (.p (eS x47)), some (.p (eLs eR1 c54)), none]) (w_appL2 (dd := eR2) rfl (e_fz (d := (eR2 (x56, [(x47, ((1 : Int) + (x2 % (100 : Int))), (1 : Int))], ([] : List D), ([] : List D), c54, ([] : List D), ([] : List D)))) (e_t (a_c (e_op (e_w (e_ix (e_b rfl) (e_v rfl) (x_l hx55))) (e_s "a") (g_cat hx56)) (a_c (e_l (a_c (e_t (a_c (e_v rfl) (a_c (e_op e_c (e_op (e_v rfl) e_c (g_modR rfl)) rfl) (a_c e_c a_n))) rfl (show _ = ((.p (eTSII (x47, ((1 : Int) + (x2 % (100 : Int))), (1 : Int)))) : T) from rfl)) a_n) rfl (show _ = ((oL eTSII [(x47, ((1 : Int) + (x2 % (100 : Int))), (1 : Int))]) : T) from rfl)) (a_c (e_l a_n rfl rfl) (a_c (e_l a_n rfl rfl) (a_c (e_vl (d := (eLs eR1) c54) rfl (oE_toD (fun _ => (u_t (u_c (u_p _) (u_c (oL_toD _) (u_c (u_p _) u_n))))) _)) (a_c (e_l a_n rfl rfl) (a_c (e_l a_n rfl rfl) a_n))))))) rfl (show _ = ((.tup [(.p (eS ((x56, [(x47, ((1 : Int) + (x2 % (100 : Int))), (1 : Int))], ([] : List D), ([] : List D), c54, ([] : List D), ([] : List D)).1))), (oL eTSII ((x56, [(x47, ((1 : Int) + (x2 % (100 : Int))), (1 : Int))], ([] : List D), ([] : List D), c54, ([] : List D), ([] : List D)).2.1)), (oL eD ((x56, [(x47, ((1 : Int) + (x2 % (100 : Int))), (1 : Int))], ([] : List D), ([] : List D), c54, ([] : List D), ([] : List D)).2.2.1)), (oL eD ((x56, [(x47, ((1 : Int) + (x2 % (100 : Int))), (1 : Int))], ([] : List D), ([] : List D), c54, ([] : List D), ([] : List D)).2.2.2.1)), (.p (eLs eR1 ((x56, [(x47, ((1 : Int) + (x2 % (100 : Int))), (1 : Int))], ([] : List D), ([] : List D), c54, ([] : List D), ([] : List D)).2.2.2.2.1))), (oL eD ((x56, [(x47, ((1 : Int) + (x2 % (100 : Int))), (1 : Int))], ([] : List D), ([] : List D), c54, ([] : List D), ([] : List D)).2.2.2.2.2.1)), (oL eD ((x56, [(x47, ((1 : Int) + (x2 % (100 : Int))), (1 : Int))], ([] : List D), ([] : List D), c54, ([] : List D), ([] : List D)).2.2.2.2.2.2))]) : T) from rfl)) (u_t (u_c (u_p _) (u_c (oL_toD _) (u_c (oL_toD _) (u_c (oL_toD _) (u_c (u_p _) (u_c (oL_toD _) (u_c (oL_toD _) u_n))))))))) rfl hx57 rfl) ?_
      have h := Option.some.inj h
      subst h
      exact w_nx ⟨Or.inl rfl, ⟨_, _, _, rfl⟩⟩
    · obtain ⟨u43, u44, u45, rfl⟩ := he
      refine w_one ?_
      have h := Option.some.inj h
      subst h
      exact w_sret (e_m rfl) (Or.inl rfl)
def n_lent_to (p_pool : R2) : Option (List Nm) :=
  (fold (fun (x2 : R1) (s1 : (List (Nm × Bool))) =>
  (fold (fun (x6 : D) (s5 : (List (Nm × Bool))) =>
  (ixD x6 (0 : Int)).bind fun x8 =>
  (eqQ x8 (eS (cod "lend"))).bind fun x9 =>
  (if x9 = true then
  ((ixD x6 (1 : Int)).bind fun x10 =>
  (asSN x10).bind fun x11 =>
  (putK s5 x11 true).bind fun x12 =>
  some x12)
  else (some s5))) x2.2.2 s1).bind fun s13 =>
  some s13) p_pool.2.2.2.2.1 ([] : List (Nm × Bool))).bind fun s14 =>
  some (s14.map (·.1))
theorem l_lent_to {p_pool : R2} {r : List Nm} (h : n_lent_to p_pool = some r) : phi_lent_to [(eR2 p_pool)] = some (oL eS r) := by
  unfold n_lent_to at h
  refine runF_wp rfl ?_
  show Wp (F_lent_to [some (.p (eR2 p_pool)), none, none, none]) _
  unfold F_lent_to
  refine w_seq (e1 := [some (.p (eR2 p_pool)), some (oK kS D.bl ([] : List (Nm × Bool))), none, none]) (w_set2 (show _ = some ((oK kS D.bl ([] : List (Nm × Bool))), _) from rfl) rfl rfl) ?_
  refine bnd h fun s14 hs14 h => ?_
  refine w_for (P := (fun e => ∃ u3, ∃ u4, e = [some (.p (eR2 p_pool)), some (oK kS D.bl s14), u3, u4])) (i_l (e_w (e_ix (e_b rfl) e_c (x_t 4 rfl)))) (loop_fold (dd := eR1) (fun (s1 : (List (Nm × Bool))) e => ∃ u3, ∃ u4, e = [some (.p (eR2 p_pool)), some (oK kS D.bl s1), u3, u4]) ?_ _ _ _ _ ⟨_, _, rfl⟩ hs14) (fun e he => ?_)
  · intro x2 s1 sN env hR h
    obtain ⟨u3, u4, rfl⟩ := hR
    refine ⟨_, rfl, ?_⟩
    unfold B_lent_to_2
    refine w_one ?_
    refine bnd h fun s13 hs13 h => ?_
    refine w_for (P := (fun e => ∃ u7, e = [some (.p (eR2 p_pool)), some (oK kS D.bl s13), some (.p (eR1 x2)), u7])) (i_l (e_w (e_ix (e_b rfl) e_c (x_t 2 rfl)))) (loop_fold (dd := eD) (fun (s5 : (List (Nm × Bool))) e => ∃ u7, e = [some (.p (eR2 p_pool)), some (oK kS D.bl s5), some (.p (eR1 x2)), u7]) ?_ _ _ _ _ ⟨_, rfl⟩ hs13) (fun e he => ?_)
    · intro x6 s5 sN env hR h
      obtain ⟨u7, rfl⟩ := hR
      refine ⟨_, rfl, ?_⟩
      unfold B_lent_to_1
      refine w_one ?_
      refine bnd h fun x8 hx8 h => ?_
      refine bnd h fun x9 hx9 h => ?_
      refine w_if (c_t (e_cmp (e_ix (e_b rfl) e_c (x_d hx8)) (e_s "lend") (u_p _) (u_p _) hx9)) h (fun hb h => ?_) (fun hb h => ?_)
      · refine bnd h fun x10 hx10 h => ?_
        refine bnd h fun x11 hx11 h => ?_
        refine bnd h fun x12 hx12 h => ?_
        refine w_seq (e1 := [some (.p (eR2 p_pool)), some (oK kS D.bl x12), some (.p (eR1 x2)), some (.p x6)]) (w_putD2 (dd := D.bl) kS_inj e_c rfl (e_asS (e_w (e_ix (e_b rfl) e_c (x_d hx10))) hx11) (keyS _) rfl hx12 rfl) ?_
        have h := Option.some.inj h
        subst h
        exact w_nx ⟨Or.inl rfl, ⟨_, rfl⟩⟩
      · refine w_snx ?_
        have h := Option.some.inj h
        subst h
        exact w_nx ⟨Or.inl rfl, ⟨_, rfl⟩⟩
    · obtain ⟨u7, rfl⟩ := he
      have h := Option.some.inj h
      subst h
      exact w_nx ⟨Or.inl rfl, ⟨_, _, rfl⟩⟩
  · obtain ⟨u3, u4, rfl⟩ := he
    refine w_one ?_
    have h := Option.some.inj h
    subst h
    exact w_sret (e_keysL (fun _ => rfl) (e_b rfl)) (Or.inl rfl)
def n_lend_ring (p_deal : List R2) : Option (Option (List Nm)) :=
  (fold (fun (x2 : R2) (s1 : (List (Nm × (List Nm)))) =>
  (n_lent_to x2).bind fun x4 =>
  (putK s1 x2.1 x4).bind fun x5 =>
  some x5) p_deal ([] : List (Nm × (List Nm)))).bind fun s6 =>
  (foldB (ρ := Option (List Nm)) (fun (x8 : R2) (s7 : Unit) =>
  (n_ring_through s6 x8.1).bind fun x11 =>
  (if (!x11.isNone) = true then
  (some (Lp.rt x11))
  else (some (Lp.nx ())))) p_deal ()).bind (lpK (fun s12 =>
  some none) (fun r => some r))
theorem l_lend_ring {p_deal : List R2} {r : Option (List Nm)} (h : n_lend_ring p_deal = some r) : phi_lend_ring [(eLs eR2 p_deal)] = some (eOT (oL eS) r) := by
  unfold n_lend_ring at h
  refine runF_wp rfl ?_
  show Wp (F_lend_ring [some (.p (eLs eR2 p_deal)), none, none, none]) _
  unfold F_lend_ring
  refine w_seq (e1 := [some (.p (eLs eR2 p_deal)), some (oK kS (eLs eS) ([] : List (Nm × (List Nm)))), none, none]) (w_set2 (show _ = some ((oK kS (eLs eS) ([] : List (Nm × (List Nm)))), _) from rfl) rfl rfl) ?_
  refine bnd h fun s6 hs6 h => ?_
  refine w_for (P := (fun e => ∃ u3, e = [some (.p (eLs eR2 p_deal)), some (oK kS (eLs eS) s6), u3, none])) (i_l (e_v rfl)) (loop_fold (dd := eR2) (fun (s1 : (List (Nm × (List Nm)))) e => ∃ u3, e = [some (.p (eLs eR2 p_deal)), some (oK kS (eLs eS) s1), u3, none]) ?_ _ _ _ _ ⟨_, rfl⟩ hs6) (fun e he => ?_)
  · intro x2 s1 sN env hR h
    obtain ⟨u3, rfl⟩ := hR
    refine ⟨_, rfl, ?_⟩
    unfold B_lend_ring_1
    refine w_one ?_
    refine bnd h fun x4 hx4 h => ?_
    refine bnd h fun x5 hx5 h => ?_
    refine w_seq (e1 := [some (.p (eLs eR2 p_deal)), some (oK kS (eLs eS) x5), some (.p (eR2 x2)), none]) (w_putD2 (dd := (eLs eS)) kS_inj (e_fz (d := (eLs eS x4)) (e_call (a_c (e_v rfl) a_n) rfl (l_lent_to hx4)) (oL_toD (e := eS) x4)) rfl (e_w (e_ix (e_b rfl) e_c (x_t 0 rfl))) (keyS _) rfl hx5 rfl) ?_
    have h := Option.some.inj h
    subst h
    exact w_nx ⟨Or.inl rfl, ⟨_, rfl⟩⟩
  · obtain ⟨u3, rfl⟩ := he
    refine bnd h fun o13 ho13 h => ?_
    refine w_forB (R := (fun (s7 : Unit) e => ∃ u9, ∃ u10, e = [some (.p (eLs eR2 p_deal)), some (oK kS (eLs eS) s6), u9, u10])) (ET := (eOT (oL eS))) (i_l (e_v rfl)) (loop_foldB (dd := eR2) (fun (s7 : Unit) e => ∃ u9, ∃ u10, e = [some (.p (eLs eR2 p_deal)), some (oK kS (eLs eS) s6), u9, u10]) (eOT (oL eS)) ?_ _ _ _ _ ⟨_, _, rfl⟩ ho13) h (fun s12 e he h => ?_) (fun v e h => ?_)
    · intro x8 s7 sN env hR h
      obtain ⟨u9, u10, rfl⟩ := hR
      refine ⟨_, rfl, ?_⟩
      unfold B_lend_ring_2
      refine bnd h fun x11 hx11 h => ?_
      refine w_seq (e1 := [some (.p (eLs eR2 p_deal)), some (oK kS (eLs eS) s6), some (.p (eR2 x8)), some (eOT (oL eS) x11)]) (w_set2 (e_callB (a_c (e_b rfl) (a_c (e_ix (e_b rfl) e_c (x_t 0 rfl)) a_n)) (u_c (d := (eKd kS (eLs eS) s6)) (oK_toD _) (u_c (d := (eS x8.1)) (u_p _) u_n)) (l_ring_through hx11) (cl_ot (fun _ => rfl) _)) rfl rfl) ?_
      refine w_one ?_
      refine w_if (c_t (e_cmp (x := (eO (eLs eS) x11)) (y := (eO eD none)) (e_b rfl) e_c (by first | exact eOT_toD (fun _ => (oL_toD _)) _ | exact (oL_toD _) | rfl) (u_p _) (g_isnt (g_isO (fun _ => rfl) _)))) h (fun hb h => ?_) (fun hb h => ?_)
      · have h := Option.some.inj h
        subst h
        exact w_sret (e_m rfl) rfl
      · refine w_snx ?_
        have h := Option.some.inj h
        subst h
        exact w_nx ⟨Or.inl rfl, ⟨_, _, rfl⟩⟩
    · obtain ⟨u9, u10, rfl⟩ := he
      refine w_one ?_
      have h := Option.some.inj h
      subst h
      exact w_sret e_c (Or.inl rfl)
    · have h := Option.some.inj h
      subst h
      exact Or.inl rfl
def n_law (p_law_script : List Int) : Option Bool :=
  (n_law_deal p_law_script).bind fun x1 =>
  (n_law_lends x1).bind fun x2 =>
  (n_lend_ring x1).bind fun x3 =>
  (n_law_deal p_law_script).bind fun x4 =>
  (eqQ (eLs eR2 x1) (eLs eR2 x4)).bind fun x5 =>
  (if (!x5) = true then
  (some false)
  else ((if x3.isNone = true then
  ((compT (fun (x6 : R2) => x6.1) x1).bind fun c7 =>
  (fold (fun (x9 : R2) (s8 : (List Nm)) =>
  (compG (fun (x11 : Nm) =>
  (lkN x2 x11).bind fun x12 =>
  (compTF (fun (x13 : Nm) => decide (x13 ∈ s8)) (fun (x13 : Nm) => x13) x12).bind fun c14 =>
  (if (decide ((0 : Int) < (c14.length : Int))) = true then (some (some x11)) else some none)) s8).bind fun c15 =>
  some c15) x1 c7).bind fun s16 =>
  (eqQ (eLs eS s16) (eLs eS ([] : List Nm))).bind fun x17 =>
  some x17)
  else (x3.bind fun x18 =>
  (if (!true) = true then some true else ((if (decide ((x18.length : Int) < (2 : Int))) = true then some true else ((lenSetN x18).bind fun x19 =>
  some (decide (x19 < (x18.length : Int))))).bind fun x20 =>
  some x20)).bind fun x21 =>
  (if x21 = true then
  (some false)
  else ((n_lend_ring x1).bind fun x22 =>
  (eqQ (eO (eLs eS) x22) (eLs eS x18)).bind fun x23 =>
  (if (!x23) = true then
  (some false)
  else ((rng1  (x18.length : Int)).bind fun x24 =>
  (foldB (ρ := Bool) (fun (x26 : Int) (s25 : Unit) =>
  (modN (x26 + (1 : Int)) (x18.length : Int)).bind fun x29 =>
  (atI x18 x29).bind fun x30 =>
  (atI x18 x26).bind fun x31 =>
  (if (!true) = true then some true else ((atI x18 x26).bind fun x32 =>
  (if (!(lkN x2 x32).isSome) = true then some true else ((atI x18 x26).bind fun x33 =>
  (lkN x2 x33).bind fun x34 =>
  some (!decide (x30 ∈ x34)))).bind fun x35 =>
  some x35)).bind fun x36 =>
  (if x36 = true then
  (some (Lp.rt false))
  else (some (Lp.nx ())))) x24 ()).bind (lpK (fun s37 =>
  some true) (fun r => some r))))))))))
theorem l_law {p_law_script : List Int} {r : Bool} (h : n_law p_law_script = some r) : phi_law [(eLs D.int p_law_script)] = some (.p (D.bl r)) := by
  unfold n_law at h
  refine runF_wp rfl ?_
  show Wp (F_law [some (.p (eLs D.int p_law_script)), none, none, none, none, none, none, none, none, none, none]) _
  unfold F_law
  refine bnd h fun x1 hx1 h => ?_
  refine w_seq (e1 := [some (.p (eLs D.int p_law_script)), some (.p (eLs eR2 x1)), none, none, none, none, none, none, none, none, none]) (w_set2 (e_fz (d := (eLs eR2 x1)) (e_call (a_c (e_v rfl) a_n) rfl (l_law_deal hx1)) (oL_toD (e := eR2) x1)) rfl rfl) ?_
  refine bnd h fun x2 hx2 h => ?_
  refine w_seq (e1 := [some (.p (eLs D.int p_law_script)), some (.p (eLs eR2 x1)), some (.p (eKd kS (eLs eS) x2)), none, none, none, none, none, none, none, none]) (w_set2 (e_fz (d := (eKd kS (eLs eS) x2)) (e_call (a_c (e_v rfl) a_n) rfl (l_law_lends hx2)) (u_p _)) rfl rfl) ?_
  refine bnd h fun x3 hx3 h => ?_
  refine w_seq (e1 := [some (.p (eLs D.int p_law_script)), some (.p (eLs eR2 x1)), some (.p (eKd kS (eLs eS) x2)), some (eOT (oL eS) x3), none, none, none, none, none, none, none]) (w_set2 (e_call (a_c (e_v rfl) a_n) rfl (l_lend_ring hx3)) rfl rfl) ?_
  refine bnd h fun x4 hx4 h => ?_
  refine bnd h fun x5 hx5 h => ?_
  refine w_if (c_t (e_cmp (x := (eLs eR2 x1)) (y := (eLs eR2 x4)) (e_b rfl) (e_call (a_c (e_v rfl) a_n) rfl (l_law_deal hx4)) (u_p _) (oL_toD (e := eR2) x4) (g_ne hx5))) h (fun hb h => ?_) (fun hb h => ?_)
  · have h := Option.some.inj h
    subst h
    exact w_sret e_c (Or.inl rfl)
  · refine w_snx ?_
    refine w_if (c_t (e_cmp (x := (eO (eLs eS) x3)) (y := (eO eD none)) (e_b rfl) e_c (by first | exact eOT_toD (fun _ => (oL_toD _)) _ | exact (oL_toD _) | rfl) (u_p _) (g_isO (fun _ => rfl) _))) h (fun hb h => ?_) (fun hb h => ?_)
    · refine w_assoc ?_
      refine bnd h fun c7 hc7 h => ?_
      refine w_seq (e1 := [some (.p (eLs D.int p_law_script)), some (.p (eLs eR2 x1)), some (.p (eKd kS (eLs eS) x2)), some (eOT (oL eS) x3), some (oL eS c7), none, none, none, none, none, none]) (w_set2 (e_compP (w := [some (.p (eLs D.int p_law_script)), some (.p (eLs eR2 x1)), some (.p (eKd kS (eLs eS) x2)), some (eOT (oL eS) x3), none, none, none, none, none, none, none]) (dd := eR2) (E := eS) (i_l (e_v rfl)) rfl ((compT_F _ _).symm.trans hc7) (fun x6 => ⟨_, rfl, _, rfl, (fun hp => nomatch hp), fun y hp h => by
    have h := Option.some.inj h; subst h
    exact ⟨_, (e_w (e_ix (e_b rfl) e_c (x_t 0 rfl))), rfl⟩⟩)) rfl rfl) ?_
      refine w_assoc ?_
      refine bnd h fun s16 hs16 h => ?_
      refine w_for (P := (fun e => ∃ u10, e = [some (.p (eLs D.int p_law_script)), some (.p (eLs eR2 x1)), some (.p (eKd kS (eLs eS) x2)), some (eOT (oL eS) x3), some (oL eS s16), u10, none, none, none, none, none])) (i_l (e_v rfl)) (loop_fold (dd := eR2) (fun (s8 : (List Nm)) e => ∃ u10, e = [some (.p (eLs D.int p_law_script)), some (.p (eLs eR2 x1)), some (.p (eKd kS (eLs eS) x2)), some (eOT (oL eS) x3), some (oL eS s8), u10, none, none, none, none, none]) ?_ _ _ _ _ ⟨_, rfl⟩ hs16) (fun e he => ?_)
      · intro x9 s8 sN env hR h
        obtain ⟨u10, rfl⟩ := hR
        refine ⟨_, rfl, ?_⟩
        unfold B_law_1
        refine w_one ?_
        refine bnd h fun c15 hc15 h => ?_
        refine w_seq (e1 := [some (.p (eLs D.int p_law_script)), some (.p (eLs eR2 x1)), some (.p (eKd kS (eLs eS) x2)), some (eOT (oL eS) x3), some (oL eS c15), some (.p (eR2 x9)), none, none, none, none, none]) (w_set2 (e_compGP (w := [some (.p (eLs D.int p_law_script)), some (.p (eLs eR2 x1)), some (.p (eKd kS (eLs eS) x2)), some (eOT (oL eS) x3), some (.p (eLs eS s8)), some (.p (eR2 x9)), none, none, none, none, none]) (dd := eS) (E := eS) (i_l (e_vl (d := (eLs eS) s8) rfl (oL_toD _))) rfl hc15 (fun x11 o h => by
    refine bnd h fun x12 hx12 h => ?_
    refine bnd h fun c14 hc14 h => ?_
    refine ⟨_, rfl, _, _, (c_t (e_cmp (e_b1 (e_compP (w := [some (.p (eLs D.int p_law_script)), some (.p (eLs eR2 x1)), some (.p (eKd kS (eLs eS) x2)), some (eOT (oL eS) x3), some (.p (eLs eS s8)), some (.p (eR2 x9)), some (.p (eS x11)), none, none, none, none]) (dd := eS) (E := eS) (i_l (e_dix (dd := (eLs eS)) kS_inj (e_b rfl) rfl (e_v rfl) (keyS _) hx12)) rfl ((compTF_F _ _ _).symm.trans hc14) (fun x13 => ⟨_, rfl, _, (c_t (e_cmp (e_b rfl) (e_b rfl) (u_p _) (u_p _) (g_inL _ _))), (fun hp => rfl), fun y hp h => by
    have h := Option.some.inj h; subst h
    exact ⟨_, (e_v rfl), rfl⟩⟩)) (g_lenO _ _)) e_c (u_p _) (u_p _) rfl)), ?_⟩
    refine ifs h (fun hb h => Or.inr ?_) (fun hb h => Or.inl ?_)
    · refine ⟨hb, ?_⟩
      have h := Option.some.inj h; subst h
      exact ⟨_, rfl, _, (e_v rfl), rfl⟩
    · exact ⟨hb, (Option.some.inj h).symm, rfl⟩)) rfl rfl) ?_
        have h := Option.some.inj h
        subst h
        exact w_nx ⟨Or.inl rfl, ⟨_, rfl⟩⟩
      · obtain ⟨u10, rfl⟩ := he
        refine bnd h fun x17 hx17 h => ?_
        have h := Option.some.inj h
        subst h
        exact w_sret (e_cmp (x := (eLs eS s16)) (y := (eLs eS ([] : List Nm))) (e_b rfl) (e_l a_n rfl rfl) (oL_toD (e := eS) s16) (oL_toD (e := eS) ([] : List Nm)) hx17) (Or.inl rfl)
    · refine bnd h fun x18 hx18 hq => ?_
      clear h
      subst hx18
      have h := hq
      clear hq
      refine w_snx ?_
      refine bnd h fun x21 hx21 h => ?_
      refine w_if (c_orO (c_not (c_t (e_isi (e_b rfl) (oL_toD _) rfl (by show kitB "list" "list" = some true; decide +kernel)))) hx21 (fun _ h => by
    refine bnd h fun x20 hx20 h => ?_
    have h := Option.some.inj h; subst h
    exact (c_orO (c_t (e_cmp (e_b1 (e_b rfl) (g_lenO _ _)) e_c (u_p _) (u_p _) rfl)) hx20 (fun _ h => by
    refine bnd h fun x19 hx19 h => ?_
    have h := Option.some.inj h; subst h
    exact (c_t (e_cmp (e_lenSet (e_b rfl) (oL_toD (e := eS) x18) hx19) (e_b1 (e_b rfl) (g_lenO _ _)) (u_p _) (u_p _) rfl)))))) h (fun hb h => ?_) (fun hb h => ?_)
      · have h := Option.some.inj h
        subst h
        exact w_sret e_c (Or.inl rfl)
      · refine w_snx ?_
        refine w_seq (e1 := [some (.p (eLs D.int p_law_script)), some (.p (eLs eR2 x1)), some (.p (eKd kS (eLs eS) x2)), some (oL eS x18), none, none, none, none, some (.p (eLs eS x18)), none, none]) (w_set2 (e_fz (d := (eLs eS x18)) (e_list (e_b rfl) (it_o _ _) rfl) (oL_toD (e := eS) x18)) rfl rfl) ?_
        refine w_seq (e1 := [some (.p (eLs D.int p_law_script)), some (.p (eLs eR2 x1)), some (.p (eKd kS (eLs eS) x2)), some (oL eS x18.reverse), none, none, none, none, some (.p (eLs eS x18)), none, none]) (w_rev2 rfl rfl) ?_
        refine bnd h fun x22 hx22 h => ?_
        refine bnd h fun x23 hx23 h => ?_
        refine w_if (c_t (e_cmp (x := (eO (eLs eS) x22)) (y := (eLs eS x18)) (e_call (a_c (e_v rfl) a_n) rfl (l_lend_ring hx22)) (e_b rfl) (by first | exact eOT_toD (fun _ => (oL_toD _)) _ | exact (oL_toD _) | rfl) (u_p _) (g_ne hx23))) h (fun hb h => ?_) (fun hb h => ?_)
        · have h := Option.some.inj h
          subst h
          exact w_sret e_c (Or.inl rfl)
        · refine w_snx ?_
          refine w_seq (e1 := [some (.p (eLs D.int p_law_script)), some (.p (eLs eR2 x1)), some (.p (eKd kS (eLs eS) x2)), some (.p (eLs eS x18)), none, none, none, none, some (.p (eLs eS x18)), none, none]) (w_set2 (e_v rfl) rfl rfl) ?_
          refine bnd h fun x24 hx24 h => ?_
          refine bnd h fun o38 ho38 h => ?_
          refine w_forB (R := (fun (s25 : Unit) e => ∃ u27, ∃ u28, e = [some (.p (eLs D.int p_law_script)), some (.p (eLs eR2 x1)), some (.p (eKd kS (eLs eS) x2)), some (.p (eLs eS x18)), none, none, none, none, some (.p (eLs eS x18)), u27, u28])) (ET := (pE D.bl)) (i_r1 (a_c (e_b1 (e_b rfl) (g_lenL _ _)) a_n) hx24) (loop_foldB (dd := D.int) (fun (s25 : Unit) e => ∃ u27, ∃ u28, e = [some (.p (eLs D.int p_law_script)), some (.p (eLs eR2 x1)), some (.p (eKd kS (eLs eS) x2)), some (.p (eLs eS x18)), none, none, none, none, some (.p (eLs eS x18)), u27, u28]) (pE D.bl) ?_ _ _ _ _ ⟨_, _, rfl⟩ ho38) h (fun s37 e he h => ?_) (fun v e h => ?_)
          · intro x26 s25 sN env hR h
            obtain ⟨u27, u28, rfl⟩ := hR
            refine ⟨_, rfl, ?_⟩
            unfold B_law_2
            refine bnd h fun x29 hx29 h => ?_
            refine bnd h fun x30 hx30 h => ?_
            refine w_seq (e1 := [some (.p (eLs D.int p_law_script)), some (.p (eLs eR2 x1)), some (.p (eKd kS (eLs eS) x2)), some (.p (eLs eS x18)), none, none, none, none, some (.p (eLs eS x18)), some (.p (D.int x26)), some (.p (eS x30))]) (w_set2 (e_w (e_ix (e_b rfl) (e_op (e_op (e_v rfl) e_c rfl) (e_b1 (e_b rfl) (g_lenL _ _)) (g_mod hx29)) (x_l hx30))) rfl rfl) ?_
            refine w_one ?_
            refine bnd h fun x31 hx31 h => ?_
            refine bnd h fun x36 hx36 h => ?_
            refine w_if (c_orO (c_not (c_t (e_isi (e_ix (e_b rfl) (e_v rfl) (x_l hx31)) (u_p _) rfl (by show kitB "str" "str" = some true; decide +kernel)))) hx36 (fun _ h => by
    refine bnd h fun x32 hx32 h => ?_
    refine bnd h fun x35 hx35 h => ?_
    have h := Option.some.inj h; subst h
    exact (c_orO (c_t (e_din kS_inj (e_ix (e_b rfl) (e_v rfl) (x_l hx32)) (e_b rfl) rfl (keyS _))) hx35 (fun _ h => by
    refine bnd h fun x33 hx33 h => ?_
    refine bnd h fun x34 hx34 h => ?_
    have h := Option.some.inj h; subst h
    exact (c_t (e_cmp (e_b rfl) (e_dix (dd := (eLs eS)) kS_inj (e_b rfl) rfl (e_w (e_ix (e_b rfl) (e_v rfl) (x_l hx33))) (keyS _) hx34) (u_p _) (u_p _) (g_nin (g_inL _ _)))))))) h (fun hb h => ?_) (fun hb h => ?_)
            · have h := Option.some.inj h
              subst h
              exact w_sret e_c rfl
            · refine w_snx ?_
              have h := Option.some.inj h
              subst h
              exact w_nx ⟨Or.inl rfl, ⟨_, _, rfl⟩⟩
          · obtain ⟨u27, u28, rfl⟩ := he
            refine w_one ?_
            have h := Option.some.inj h
            subst h
            exact w_sret e_c (Or.inl rfl)
          · have h := Option.some.inj h
            subst h
            exact Or.inl rfl
end
end K57
namespace K57
open PySem PySem.Spec PyProof.Rows L2 DL
section
open FG FGN
open DK (Rl TP S)
open FD (cc cc_ix cc_sok cc_inj cyc_nodup)
def KW7 (x1 size at' : Int) (k : Int) (v : Nm) : Prop :=
  if x1 % 3 = 0 then (at' + 1 < size ∧ v[at'.toNat]? = some (cc (x1 / 192 + k))) ∨ (at' + 1 = size ∧ (v.getLast? = some (cc (x1 / 192 + k)) ∨ v.getLast? = some (sh (cc (x1 / 192 + k)))))
  else if x1 % 3 = 1 then (v.length : Int) = 1 + (x1 / 24 + k) % 7
  else v[0]? = some (cc (x1 / 192 + k))
theorem KW7.inj {x1 size at' i j : Int} {v : Nm} (hi : 0 ≤ i ∧ i < 7) (hj : 0 ≤ j ∧ j < 7) (h1 : KW7 x1 size at' i v) (h2 : KW7 x1 size at' j v) : i = j := by
  have cj : ∀ a b : Int, 0 ≤ a ∧ a < 7 → 0 ≤ b ∧ b < 7 → cc (x1 / 192 + a) = cc (x1 / 192 + b) → a = b := fun a b ha hb e => by
    have := cc_inj e
    omega
  have cs : ∀ a b : Int, 0 ≤ a ∧ a < 7 → 0 ≤ b ∧ b < 7 → cc (x1 / 192 + a) = sh (cc (x1 / 192 + b)) → a = b := fun a b ha hb e => by
    rw [sh_cc] at e
    have := cc_inj e
    omega
  have ss : ∀ a b : Int, 0 ≤ a ∧ a < 7 → 0 ≤ b ∧ b < 7 → sh (cc (x1 / 192 + a)) = sh (cc (x1 / 192 + b)) → a = b := fun a b ha hb e => by
    rw [sh_cc, sh_cc] at e
    have := cc_inj e
    omega
  unfold KW7 at h1 h2
  by_cases c0 : x1 % 3 = 0
  · rw [if_pos c0] at h1 h2
    rcases h1 with ⟨a1, h1⟩ | ⟨a1, h1⟩
    · rcases h2 with ⟨a2, h2⟩ | ⟨a2, h2⟩
      · rw [h1] at h2; exact cj i j hi hj (Option.some.inj h2)
      · omega
    · rcases h2 with ⟨a2, h2⟩ | ⟨a2, h2⟩
      · omega
      · rcases h1 with h1 | h1 <;> rcases h2 with h2 | h2 <;> rw [h1] at h2
        · exact cj i j hi hj (Option.some.inj h2)
        · exact cs i j hi hj (Option.some.inj h2)
        · exact (cs j i hj hi (Option.some.inj h2).symm).symm
        · exact ss i j hi hj (Option.some.inj h2)
  · rw [if_neg c0] at h1 h2
    by_cases c1 : x1 % 3 = 1
    · rw [if_pos c1] at h1 h2
      omega
    · rw [if_neg c1] at h1 h2
      rw [h1] at h2; exact cj i j hi hj (Option.some.inj h2)
theorem words7_ok (cell many : Int) (hm : 1 ≤ many ∧ many ≤ 7) : Ok (FGN.n_law_words cell many 7) fun ws => ws.length = many.toNat ∧ (∀ w ∈ ws, Sok w ∧ w.length ≤ 8) ∧ ws.Nodup := by
  unfold FGN.n_law_words
  refine ok_bind (mixed_ok cell 1 (by omega)) fun x1 h1 => ?_
  refine ok_eq (mulN_l (by omega)) ?_
  refine ok_bind (letters_ok _ 8 (by omega)) fun x3 h3 => ?_
  refine ok_bind (ok_mod (by omega)) fun x4 h4 => ?_
  refine ok_bind (ok_mod (by omega)) fun x5 h5 => ?_
  refine ok_eq (rng1_eq (by omega) (by omega)) ?_
  have hl3 : x3.length = 8 := by rw [h3.1]; rfl
  have hcut : ∀ (l r : Option Int), Sok (cutA x3 l r) := fun l r c hc => h3.2 c (cutA_mem hc)
  refine ok_bind (ok_fold0 (fun pre (st : List Nm) => st.length = pre.length ∧ (∀ w ∈ st, Sok w ∧ w.length ≤ 8) ∧ ∀ (i : Nat) v, st[i]? = some v → KW7 x1 (1 + x4) x5 i v) ⟨rfl, by simp, by simp⟩ fun pre x post st e hi => ?_) fun s hs => ?_
  · obtain ⟨hxe, hpl⟩ := FA.rngN_pre e
    have hl := congrArg List.length e
    rw [rngN_len, List.length_append, List.length_cons] at hl
    refine ok_eq (cc_ix _) ?_
    refine ok_bind (Q := fun w => (Sok w ∧ w.length ≤ 8) ∧ ∀ v, SP w v → KW7 x1 (1 + x4) x5 x v) ?_ fun w hw => ?_
    · refine ok_dite (fun c0 => ?_) fun c0 => ok_dite (fun c1 => ?_) fun c1 => ?_
      · refine ok_eq (cutN_eq _ _ (by omega)) ?_
        refine ok_eq (catS_eq (by have := cutA_len x3 none (some x5); simp; omega)) ?_
        refine ok_eq (cutN_eq _ _ (by omega)) ?_
        have e1 : (cutA x3 none (some x5)).length = x5.toNat := by rw [DK.cutTake (by omega), List.length_take]; omega
        have e2 : (cutA x3 (some (x5 + 1)) (some (1 + x4))).length = (1 + x4 - (x5 + 1)).toNat := by
          rw [DK.cutMid (by omega) (by omega) (by omega), List.length_take, List.length_drop]; omega
        refine ok_eq (catS_eq (by rw [List.length_append, e1, e2]; simp; omega)) (ok_some ⟨⟨sok_app (sok_app (hcut _ _) (sok1 (cc_sok _))) (hcut _ _), by rw [List.length_append, List.length_append, e1, e2, List.length_singleton]; omega⟩, fun v hv => ?_⟩)
        unfold KW7
        rw [if_pos c0]
        have hwl : (cutA x3 none (some x5) ++ [cc (x1 / 192 + x)] ++ cutA x3 (some (x5 + 1)) (some (1 + x4))).length = (1 + x4).toNat := by
          rw [List.length_append, List.length_append, e1, e2, List.length_singleton]; omega
        by_cases ca : x5 + 1 < 1 + x4
        · refine .inl ⟨ca, ?_⟩
          rw [hv.at (by rw [hwl]; omega), List.append_assoc, List.getElem?_append_right (by omega), e1, Nat.sub_self]; rfl
        · refine .inr ⟨by omega, hv.last ?_⟩
          have e3 : cutA x3 (some (x5 + 1)) (some (1 + x4)) = [] := List.eq_nil_of_length_eq_zero (by rw [e2]; omega)
          rw [e3, List.append_nil, List.getLast?_concat]
      · refine ok_eq (modN_eq (by omega)) ?_
        refine ok_eq (cutN_eq _ _ (by omega)) (ok_some ⟨⟨hcut _ _, by rw [← hl3]; exact cutA_len _ _ _⟩, fun v hv => ?_⟩)
        unfold KW7
        rw [if_neg c0, if_pos c1, hv.len, DK.cutTake (by omega), List.length_take]
        omega
      · refine ok_bind (mixed_ok cell _ (by omega)) fun z hz => ?_
        refine ok_bind (letters_ok _ 7 (by omega)) fun a ha => ?_
        refine ok_eq (catS_eq (by simp; omega)) ?_
        refine ok_bind (mixed_ok cell _ (by omega)) fun z2 hz2 => ?_
        refine ok_bind (ok_mod (by omega)) fun z3 hz3 => ?_
        have hal : ([cc (x1 / 192 + x)] ++ a).length = 8 := by rw [List.length_append, ha.1]; rfl
        refine ok_eq (cutN_eq _ _ (by omega)) (ok_some ⟨⟨fun c hc => sok_app (sok1 (cc_sok _)) ha.2 c (cutA_mem hc), by rw [← hal]; exact cutA_len _ _ _⟩, fun v hv => ?_⟩)
        have e4 : cutA ([cc (x1 / 192 + x)] ++ a) none (some (1 + z3)) = cc (x1 / 192 + x) :: a.take z3.toNat := by
          rw [DK.cutTake (by omega), show (1 + z3).toNat = z3.toNat + 1 by omega]; rfl
        rw [e4] at hv
        unfold KW7
        rw [if_neg c0, if_neg c1]
        by_cases c2 : 2 ≤ (cc (x1 / 192 + x) :: a.take z3.toNat).length
        · rw [hv.at (by omega)]; rfl
        · rcases hv with rfl | ⟨h2, _⟩
          · rfl
          · exact absurd h2 c2
    · refine ok_bind (spelt_ok hw.1.1) fun v hv => ?_
      refine ok_eq (push_eq (by omega)) (ok_some ⟨by rw [List.length_append, List.length_append, hi.1]; rfl, fun u hu => ?_, fun i u hu => ?_⟩)
      · rcases List.mem_append.mp hu with hu | hu
        · exact hi.2.1 u hu
        · rw [List.mem_singleton.mp hu]; exact ⟨hv.1, by rw [hv.2.len]; exact hw.1.2⟩
      · rcases Nat.lt_or_ge i st.length with h | h
        · rw [List.getElem?_append_left h] at hu
          exact hi.2.2 i u hu
        · have hi2 := (List.getElem?_eq_some_iff.mp hu).1
          rw [List.length_append, List.length_singleton] at hi2
          have ei : i = st.length := by omega
          subst ei
          rw [List.getElem?_append_right (Nat.le_refl _), Nat.sub_self] at hu
          cases hu
          rw [hi.1, ← hxe]
          exact hw.2 v hv.2
  · rw [rngN_len] at hs
    have hnd : s.Nodup := by
      unfold List.Nodup
      rw [List.pairwise_iff_getElem]
      intro i j hi hj hij heq
      have k1 := hs.2.2 i _ (List.getElem?_eq_getElem hi)
      have k2 := hs.2.2 j _ (List.getElem?_eq_getElem hj)
      rw [heq] at k1
      have := KW7.inj (by omega) (by omega) k1 k2
      omega
    exact ok_dite (fun _ => ok_some ⟨by rw [List.length_reverse]; exact hs.1, fun w hw => hs.2.1 w (List.mem_reverse.mp hw), (by unfold List.Nodup; rw [List.pairwise_reverse]; exact hnd.imp fun h e => h e.symm)⟩) fun _ => ok_some ⟨hs.1, hs.2.1, hnd⟩
end
end K57
namespace K57
open PySem PySem.Spec PyProof.Rows L2 DL
def RuleOk (N : List Nm) (k : Nat) (d : D) : Prop := ∃ kind t, ixD d 0 = some (eS kind) ∧ ixD d 1 = some (eS t) ∧ dOk 3 d = true ∧ (kind = cod "lend" → ∃ o, o ≠ k ∧ o < N.length ∧ t = N.getD o [] ++ cod "a")
def RowOk (N : List Nm) (k : Nat) (rs : List (List D)) : Prop := (1 ≤ rs.length ∧ rs.length ≤ 3) ∧ ∀ r ∈ rs, (1 ≤ r.length ∧ r.length ≤ 5) ∧ ∀ d ∈ r, RuleOk N k d
structure PoolOk (N : List Nm) (k : Nat) (p : R2) : Prop where
  d : dOk 7 (eR2 p) = true
  os : p.2.2.2.2.1.length ≤ 3
  rs : ∀ o ∈ p.2.2.2.2.1, o.2.2.length ≤ 5 ∧ ∀ d ∈ o.2.2, RuleOk N k d
structure DealOk (N : List Nm) (deal : List R2) : Prop where
  nd : N.Nodup
  sok : ∀ n ∈ N, Sok n
  len : 2 ≤ N.length ∧ N.length ≤ 6
  nm : deal.map (·.1) = N.map (· ++ cod "a")
  ok : ∀ (k : Nat) p, deal[k]? = some p → PoolOk N k p
theorem mixed_ok (c k : Int) (hk : 0 ≤ k ∧ k ≤ 1000) : Ok (n_law_mixed c k) fun x => 0 ≤ x ∧ x < 2147483647 := FG.mixed_ok c k hk
theorem cell_ok (s : List Int) (k : Int) (hk : 0 ≤ k) : Ok (n_law_cell_at s k) fun _ => True := by
  unfold n_law_cell_at
  exact ok_dite (fun h => ok_bind (ok_atI (R := fun _ => True) hk h fun _ _ => trivial) fun x _ => ok_some trivial) fun _ => ok_some trivial
theorem sok_app2 {a b : Nm} (ha : Sok a) (hb : Sok b) : Sok (a ++ b) := fun c hc => (List.mem_append.mp hc).elim (ha c) (hb c)
theorem getD_mem2 {N : List Nm} {o : Nat} (h : o < N.length) : N.getD o [] ∈ N := by
  rw [List.getD_eq_getElem?_getD, List.getElem?_eq_getElem h]
  exact List.getElem_mem h
theorem atI_getD {N : List Nm} {o : Nat} (h : o < N.length) : atI N (o : Int) = some (N.getD o []) := by
  rw [atI_nat (List.getElem?_eq_getElem h), List.getD_eq_getElem?_getD, List.getElem?_eq_getElem h]; rfl
theorem lend_ok {N : List Nm} {k o : Nat} {c : Int} (hs : ∀ n ∈ N, Sok n) (ho : o ≠ k) (hl : o < N.length) : RuleOk N k (eTSSI (cod "lend", N.getD o [] ++ cod "a", c)) :=
  ⟨_, _, rfl, rfl, dT3 (dS (sok_cod _)) (dS (sok_app2 (hs _ (getD_mem2 hl)) (sok_cod _))) dI, fun _ => ⟨o, ho, hl, rfl⟩⟩
theorem two_ok {N : List Nm} {k : Nat} {w t : Nm} (hw : Sok w) (ht : Sok t) (hn : w ≠ cod "lend") : RuleOk N k (eTSS (w, t)) := ⟨_, _, rfl, rfl, dT2 (dS hw) (dS ht), fun h => absurd h hn⟩
theorem ins_mem {α : Type} {xs zs : List α} {n : Int} {x : α} (h : insN xs n x = some zs) : (∀ z ∈ zs, z ∈ xs ∨ z = x) ∧ zs.length = xs.length + 1 := by
  unfold insN at h
  split at h
  · cases h
    refine ⟨fun z hz => ?_, ?_⟩
    · simp only [List.mem_append, List.mem_cons, List.mem_singleton] at hz
      rcases hz with hz | hz
      · first
          | exact Or.inl (List.mem_of_mem_take hz)
          | (rcases hz with hz | hz
             · exact Or.inl (List.mem_of_mem_take hz)
             · exact Or.inr (by simpa using hz))
      · first
          | (rcases hz with hz | hz
             · exact Or.inr hz
             · exact Or.inl (List.mem_of_mem_drop hz))
          | exact Or.inl (List.mem_of_mem_drop hz)
    · simp
      omega
  · cases h
theorem ixNn {n i : Nat} (h : i < n) : ixN n (i : Int) = some i := by unfold ixN; rw [if_pos (by omega), if_pos (by omega)]; rfl
theorem rot_ne {i x : Int} {M : Nat} (hM : 2 ≤ M ∧ M ≤ 6) (hi : 0 ≤ i ∧ i < M) (hx : 0 ≤ x ∧ x < (M : Int) - 1) : (i + 1 + x) % (M : Int) ≠ i := by
  have : M = 2 ∨ M = 3 ∨ M = 4 ∨ M = 5 ∨ M = 6 := by omega
  rcases this with rfl | rfl | rfl | rfl | rfl <;> omega
def RowsOk (N : List Nm) (rows : List (List (List D))) : Prop := rows.length = N.length ∧ ∀ (k : Nat) rs, rows[k]? = some rs → RowOk N k rs
theorem rows_set {N : List Nm} {rows : List (List (List D))} {i j : Nat} {rs : List (List D)} {r : List D} (h : RowsOk N rows) (hi : rows[i]? = some rs) (hr : (1 ≤ r.length ∧ r.length ≤ 5) ∧ ∀ d ∈ r, RuleOk N i d) : RowsOk N (rows.set i (rs.set j r)) := by
  refine ⟨by rw [List.length_set]; exact h.1, fun k rs2 hk => ?_⟩
  rw [List.getElem?_set] at hk
  split at hk
  · rename_i q
    subst q
    split at hk
    · cases hk
      obtain ⟨h1, h2⟩ := h.2 i rs hi
      refine ⟨by rw [List.length_set]; exact h1, fun r2 h3 => ?_⟩
      rcases List.mem_or_eq_of_mem_set h3 with h3 | rfl
      · exact h2 r2 h3
      · exact hr
    · cases hk
  · exact h.2 k rs2 hk
theorem atI_g {α : Type} {xs : List α} {i : Nat} {x : α} (h : xs[i]? = some x) : atI xs (i : Int) = some x := atI_nat h
theorem deal_ok (s : List Int) (hl : s.length ≤ 63) : Ok (n_law_deal s) fun deal => ∃ N, DealOk N deal := by
  unfold n_law_deal
  refine ok_bind (cell_ok s 0 (by omega)) fun x1 _ => ?_
  refine ok_bind (mixed_ok x1 1 (by omega)) fun x2 h2 => ?_
  refine ok_bind (cell_ok s 0 (by omega)) fun x3 _ => ?_
  obtain ⟨M, hM⟩ : ∃ M : Nat, 2 + x2 % 5 = (M : Int) := ⟨(2 + x2 % 5).toNat, by omega⟩
  have hM2 : 2 ≤ M ∧ M ≤ 6 := by omega
  rw [hM]
  refine ok_bind (show Ok (n_law_words x3 (M : Int) 7) _ from words7_ok x3 (M : Int) (by omega)) fun N hN => ?_
  obtain ⟨n1, n2, n3⟩ := hN
  have hNl : N.length = M := by rw [n1]; omega
  have hs : ∀ n ∈ N, Sok n := fun n hn => (n2 n hn).1
  refine ok_bind (Q := fun rows => RowsOk N rows) ?_ fun c10 h10 => ?_
  · refine ok_imp (ok_compO (R := fun (x : Nm) (y : List (List D)) => ∀ k, RowOk N k y) (by omega) fun x hx => ?_) fun ys hys => ?_
    · refine ok_eq (rng1_eq (by omega) (by omega)) ?_
      refine ok_bind (ok_compO (R := fun (_ : Int) (y : List D) => y = [eTSS (cod "rest", x ++ cod "b")]) (by rw [rngN_len]; omega) fun z _ => ?_) fun c9 h9 => ok_some fun k => ?_
      · exact ok_eq (catS_eq (by have := (n2 x hx).2; have e : (cod "b").length = 1 := rfl; omega)) (ok_some rfl)
      · refine ⟨by rw [h9.1, rngN_len]; omega, fun r hr => ?_⟩
        obtain ⟨z, _, rfl⟩ := h9.2 r hr
        refine ⟨by simp, fun d hd => ?_⟩
        rw [List.mem_singleton.mp hd]
        exact two_ok (sok_cod _) (sok_app2 (hs x hx) (sok_cod _)) (by decide)
    · refine ⟨hys.1, fun k rs hk => ?_⟩
      obtain ⟨x, _, h⟩ := hys.2 rs (List.mem_of_getElem? hk)
      exact h k
  refine ok_bind (ok_fold0 (I := fun _ rows => RowsOk N rows) h10 fun pre x post rows hp hi => ?_) fun rows hrows => ?_
  · have hx := enumN_mem (p := x) (xs := cutA s none (some (64 : Int))) (k := 0) (by rw [hp]; simp)
    have hcl := cutA_len s none (some (64 : Int))
    refine ok_bind (mixed_ok _ _ (by omega)) fun x20 h20 => ?_
    refine ok_bind (ok_mod (by omega)) fun x21 h21 => ?_
    refine ok_bind (ok_mod (by omega)) fun x22 h22 => ?_
    refine ok_eq (modN_eq (by omega)) ?_
    have hne := rot_ne (i := x21) (x := x22) hM2 h21 h22
    obtain ⟨i, rfl⟩ : ∃ i : Nat, x21 = (i : Int) := ⟨x21.toNat, by omega⟩
    obtain ⟨o, ho⟩ : ∃ o : Nat, ((i : Int) + 1 + x22) % (M : Int) = (o : Int) := ⟨(((i : Int) + 1 + x22) % (M : Int)).toNat, by have := Int.emod_nonneg ((i : Int) + 1 + x22) (show (M : Int) ≠ 0 by omega); omega⟩
    have ho2 := Int.emod_lt_of_pos ((i : Int) + 1 + x22) (show (0 : Int) < (M : Int) by omega)
    rw [ho] at ho2 hne ⊢
    have hil : i < rows.length := by rw [hi.1]; omega
    have hol : o < N.length := by omega
    have hoi : o ≠ i := by omega
    obtain ⟨rs, hrs⟩ : ∃ rs, rows[i]? = some rs := ⟨_, List.getElem?_eq_getElem hil⟩
    obtain ⟨r1, r2⟩ := hi.2 i rs hrs
    refine ok_eq (ixNn hil) (ok_eq hrs (ok_eq (atI_g hrs) ?_))
    refine ok_bind (ok_mod (by omega)) fun x27 h27 => ?_
    obtain ⟨j, rfl⟩ : ∃ j : Nat, x27 = (j : Int) := ⟨x27.toNat, by omega⟩
    have hjl : j < rs.length := by omega
    refine ok_eq (ixNn hjl) ?_
    obtain ⟨ru, hru⟩ : ∃ ru, rs[j]? = some ru := ⟨_, List.getElem?_eq_getElem hjl⟩
    obtain ⟨u1, u2⟩ := r2 ru (List.mem_of_getElem? hru)
    refine ok_eq hru ?_
    have hcat : catS (N.getD o []) (cod "a") = some (N.getD o [] ++ cod "a") := catS_eq (by have := (n2 _ (getD_mem2 hol)).2; have e : (cod "a").length = 1 := rfl; omega)
    refine ok_bind (Q := fun rows => RowsOk N rows) ?_ fun s38 h38 => ok_some h38
    refine ok_eq (atI_getD hol) (ok_eq hcat ?_)
    refine ok_bind (Q := fun d => RuleOk N i d) (ok_dite (fun _ => ok_eq (atI_getD hol) (ok_eq hcat (ok_some (two_ok (sok_cod _) (sok_app2 (hs _ (getD_mem2 hol)) (sok_cod _)) (by decide))))) fun _ => ok_some (lend_ok hs hoi hol)) fun d hd => ?_
    refine ok_ite (fun h => ?_) fun _ => ok_some (rows_set hi hrs ⟨u1, u2⟩)
    rw [Bool.and_eq_true] at h
    have hlt := of_decide_eq_true h.2
    refine ok_bind (ok_mod (by omega)) fun x36 h36 => ?_
    refine ok_bind (Q := fun zs : List D => (∀ z ∈ zs, z ∈ ru ∨ z = d) ∧ zs.length = ru.length + 1) ?_ fun zs hz => ok_some (rows_set hi hrs ⟨by omega, fun e he => ?_⟩)
    · have e : insN ru x36 d = some (ru.take x36.toNat ++ [d] ++ ru.drop x36.toNat) := if_pos ⟨by omega, by omega, by omega⟩
      exact ⟨_, e, ins_mem e⟩
    · rcases hz.1 e he with h | rfl
      · exact u2 e h
      · exact hd
  refine ok_eq (rng1_eq (by omega) (by omega)) ?_
  refine ok_bind (ok_fold0 (I := fun done (deal : List R2) => deal.length = done.length ∧ ∀ (k : Nat) p, deal[k]? = some p → p.1 = N.getD k [] ++ cod "a" ∧ PoolOk N k p) ⟨rfl, by simp⟩ fun pre x post deal hp hi => ?_) fun deal hd => ok_some ⟨N, n3, hs, by omega, ?_, fun k p hk => (hd.2 k p hk).2⟩
  · obtain ⟨hx, hlt⟩ := FA.rngN_pre hp
    subst hx
    have hkl : pre.length < N.length := by omega
    have hmem := getD_mem2 hkl
    have hnl := (n2 _ hmem).2
    have ea : (cod "a").length = 1 := rfl
    have eb : (cod "b").length = 1 := rfl
    refine ok_eq (atI_getD hkl) (ok_eq (catS_eq (by omega)) ?_)
    have hkr : pre.length < rows.length := by rw [hrows.1]; exact hkl
    obtain ⟨rs, hrs⟩ : ∃ rs, rows[pre.length]? = some rs := ⟨_, List.getElem?_eq_getElem hkr⟩
    obtain ⟨r1, r2⟩ := hrows.2 _ rs hrs
    refine ok_eq (atI_g hrs) ?_
    refine ok_eq (rng1_eq (by omega) (by omega)) ?_
    refine ok_bind (ok_compO (R := fun (_ : Int) (o : R1) => Sok o.1 ∧ o.2.1 = [] ∧ o.2.2 ∈ rs) (by rw [rngN_len]; omega) fun z hz => ?_) fun c54 h54 => ?_
    · have hz2 := rngN_mem hz
      obtain ⟨j, rfl⟩ : ∃ j : Nat, z = (j : Int) := ⟨z.toNat, by omega⟩
      have hjl : j < rs.length := by omega
      refine ok_bind (Q := fun w => Sok w) ?_ fun w hw => ok_eq (atI_g hrs) (ok_eq (atI_g (List.getElem?_eq_getElem hjl)) (ok_some ⟨hw, rfl, List.getElem_mem hjl⟩))
      have : j = 0 ∨ j = 1 ∨ j = 2 := by omega
      rcases this with rfl | rfl | rfl
      · exact ⟨cod "a", by decide, sok_cod _⟩
      · exact ⟨cod "b", by decide, sok_cod _⟩
      · exact ⟨cod "c", by decide, sok_cod _⟩
    · refine ok_eq (atI_getD hkl) (ok_eq (catS_eq (by omega)) (ok_eq (push_eq (by omega)) (ok_some ⟨by rw [List.length_append, List.length_append, hi.1]; rfl, fun k p hk => ?_⟩)))
      rcases Nat.lt_or_ge k deal.length with h | h
      · rw [List.getElem?_append_left h] at hk
        exact hi.2 k p hk
      · rw [List.getElem?_append_right h] at hk
        have hk0 : k = deal.length := by
          cases q : k - deal.length with
          | zero => omega
          | succ n => rw [q] at hk; simp at hk
        rw [hk0, Nat.sub_self] at hk
        cases hk
        rw [hk0, hi.1]
        refine ⟨rfl, ?_, ?_, fun o ho => ?_⟩
        · have hos : ∀ o ∈ c54, dOk 5 (eR1 o) = true := fun o ho => by
            obtain ⟨_, _, q1, q2, q3⟩ := h54.2 o ho
            refine dT3 (dS q1) (by rw [q2]; exact dL (n := 3) fun d hd => by cases hd) (dL (n := 3) fun d hd => ?_)
            obtain ⟨_, _, _, _, h, _⟩ := (r2 _ q3).2 d hd
            exact h
          exact dT7 (n := 6) (dS (sok_app2 (hs _ hmem) (sok_cod _))) (dL (n := 5) fun y hy => by rw [List.mem_singleton.mp hy]; exact dT3 (dS (sok_app2 (hs _ hmem) (sok_cod _))) dI dI) (dL (n := 5) fun d hd => by cases hd) (dL (n := 5) fun d hd => by cases hd) (dL (n := 5) hos) (dL (n := 5) fun d hd => by cases hd) (dL (n := 5) fun d hd => by cases hd)
        · show c54.length ≤ 3
          rw [h54.1, rngN_len]; omega
        · obtain ⟨_, _, q1, q2, q3⟩ := h54.2 o ho
          exact ⟨(r2 _ q3).1.2, (r2 _ q3).2⟩
  · refine List.ext_getElem? fun k => ?_
    rw [List.getElem?_map, List.getElem?_map]
    have hdl : deal.length = N.length := by rw [hd.1, rngN_len]; omega
    rcases Nat.lt_or_ge k deal.length with h | h
    · have e := (hd.2 k _ (List.getElem?_eq_getElem h)).1
      rw [List.getElem?_eq_getElem h, List.getElem?_eq_getElem (show k < N.length by omega)]
      show some (deal[k].1) = some (N[k] ++ cod "a")
      rw [e, List.getD_eq_getElem?_getD, List.getElem?_eq_getElem (show k < N.length by omega)]; rfl
    · rw [List.getElem?_eq_none h, List.getElem?_eq_none (by omega)]; rfl
end K57
namespace K57
open PySem PySem.Spec PyProof.Rows L2 DL
def tgts (r : List D) : List Nm := r.filterMap fun d => (tgtD d).join
def tgtP (p : R2) : List Nm := (p.2.2.2.2.1.map fun o => tgts o.2.2).flatten
variable {N : List Nm} {deal : List R2}
theorem tgt_ok {k : Nat} {d : D} (h : RuleOk N k d) : (tgtD d = some none) ∨ ∃ o, o ≠ k ∧ o < N.length ∧ tgtD d = some (some (N.getD o [] ++ cod "a")) := by
  obtain ⟨w, t, h1, h2, _, h3⟩ := h
  unfold tgtD
  rw [h1, bindS, show eqQ (eS w) (eS (cod "lend")) = some (decide (w = cod "lend")) from eqQ_g, bindS]
  by_cases c : w = cod "lend"
  · obtain ⟨o, g1, g2, g3⟩ := h3 c
    refine Or.inr ⟨o, g1, g2, ?_⟩
    rw [if_pos (decide_eq_true c), h2, g3]; rfl
  · exact Or.inl (if_neg (by simpa using c))
theorem tgts_eq {k : Nat} : ∀ {r : List D}, (∀ d ∈ r, RuleOk N k d) → mapG tgtD r = some (tgts r) ∧ (tgts r).length ≤ r.length ∧ ∀ y ∈ tgts r, ∃ o, o ≠ k ∧ o < N.length ∧ y = N.getD o [] ++ cod "a"
  | [], _ => ⟨rfl, Nat.le_refl _, fun y hy => by cases hy⟩
  | d :: r, h => by
    obtain ⟨h1, h2, h3⟩ := tgts_eq (r := r) fun x hx => h x (by simp [hx])
    rcases tgt_ok (h d (by simp)) with e | ⟨o, g1, g2, e⟩
    · have e2 : tgts (d :: r) = tgts r := by unfold tgts; rw [List.filterMap_cons, e]; rfl
      refine ⟨?_, by rw [e2, List.length_cons]; omega, by rw [e2]; exact h3⟩
      show (tgtD d).bind _ = _
      rw [e, bindS, e2]
      exact h1
    · have e2 : tgts (d :: r) = (N.getD o [] ++ cod "a") :: tgts r := by unfold tgts; rw [List.filterMap_cons, e]; rfl
      refine ⟨?_, by rw [e2, List.length_cons, List.length_cons]; omega, fun y hy => ?_⟩
      · show (tgtD d).bind _ = _
        rw [e, bindS, e2]
        show (mapG tgtD r).map _ = _
        rw [h1]; rfl
      · rw [e2] at hy
        rcases List.mem_cons.mp hy with rfl | hy
        · exact ⟨o, g1, g2, rfl⟩
        · exact h3 y hy
theorem lendsP_eq {k : Nat} {p : R2} (h : PoolOk N k p) : lendsP p = some (tgtP p) ∧ (tgtP p).length ≤ 15 ∧ ∀ y ∈ tgtP p, ∃ o, o ≠ k ∧ o < N.length ∧ y = N.getD o [] ++ cod "a" := by
  have go : ∀ (os : List Or) (s : List Nm), (∀ o ∈ os, o.2.2.length ≤ 5 ∧ ∀ d ∈ o.2.2, RuleOk N k d) → s.length + 5 * os.length ≤ 1000 → fold (fun (o : Or) (s : List Nm) => (compG tgtD o.2.2).bind fun c => extL s c) os s = some (s ++ (os.map fun o => tgts o.2.2).flatten) ∧ (os.map fun o => tgts o.2.2).flatten.length ≤ 5 * os.length ∧ ∀ y ∈ (os.map fun o => tgts o.2.2).flatten, ∃ o, o ≠ k ∧ o < N.length ∧ y = N.getD o [] ++ cod "a" := by
    intro os
    induction os with
    | nil => intro s _ _; exact ⟨by simp [fold], by simp, by simp⟩
    | cons o os ih =>
      intro s ho hl
      rw [List.length_cons] at hl
      obtain ⟨h1, h2, h3⟩ := tgts_eq (N := N) (k := k) (ho o (by simp)).2
      have h4 := (ho o (by simp)).1
      obtain ⟨i1, i2, i3⟩ := ih (s ++ tgts o.2.2) (fun x hx => ho x (by simp [hx])) (by rw [List.length_append]; omega)
      refine ⟨?_, ?_, fun y hy => ?_⟩
      · show (Option.bind _ _).bind _ = _
        have e : compG tgtD o.2.2 = some (tgts o.2.2) := by unfold compG; rw [if_pos (by omega), h1]
        rw [e, bindS, extL_eq (by omega), bindS]
        refine Eq.trans i1 ?_
        rw [List.map_cons, List.flatten_cons, List.append_assoc]
      · rw [List.map_cons, List.flatten_cons, List.length_append, List.length_cons]; omega
      · rw [List.map_cons, List.flatten_cons] at hy
        rcases List.mem_append.mp hy with hy | hy
        · exact h3 y hy
        · exact i3 y hy
  obtain ⟨g1, g2, g3⟩ := go p.2.2.2.2.1 [] h.rs (by have := h.os; simp; omega)
  refine ⟨by unfold lendsP; rw [g1]; rfl, ?_, g3⟩
  have := h.os
  exact Nat.le_trans g2 (by omega)
theorem names_nd (h : DealOk N deal) : (deal.map (·.1)).Nodup := by
  rw [h.nm]
  exact List.Pairwise.map _ (fun a b n e => n (List.append_cancel_right e)) h.nd
theorem deal_len (h : DealOk N deal) : deal.length = N.length := by
  have := congrArg List.length h.nm
  rwa [List.length_map, List.length_map] at this
theorem pool_at (h : DealOk N deal) {p : R2} (hp : p ∈ deal) : ∃ k, k < N.length ∧ deal[k]? = some p ∧ p.1 = N.getD k [] ++ cod "a" ∧ PoolOk N k p := by
  obtain ⟨k, hk, e⟩ := List.mem_iff_getElem.mp hp
  have e2 : deal[k]? = some p := by rw [List.getElem?_eq_getElem hk, e]
  have hl := deal_len h
  refine ⟨k, by omega, e2, ?_, h.ok k p e2⟩
  have := congrArg (fun l : List Nm => l[k]?) h.nm
  simp only [List.getElem?_map] at this
  rw [e2, List.getElem?_eq_getElem (show k < N.length by omega)] at this
  have := Option.some.inj this
  rw [List.getD_eq_getElem?_getD, List.getElem?_eq_getElem (show k < N.length by omega)]
  exact this
theorem lends_eq (h : DealOk N deal) : n_law_lends deal = some (deal.map fun p => (p.1, tgtP p)) := by
  unfold n_law_lends
  rw [if_pos ⟨names_nd h, by have := deal_len h; have := h.len; omega⟩]
  have go : ∀ l : List R2, (∀ p ∈ l, p ∈ deal) → lendsA l = some (l.map fun p => (p.1, tgtP p)) := by
    intro l
    induction l with
    | nil => intro _; rfl
    | cons p l ih =>
      intro hl
      obtain ⟨k, _, _, _, hp⟩ := pool_at h (hl p (by simp))
      show (lendsP p).bind _ = _
      rw [(lendsP_eq hp).1, bindS, ih fun x hx => hl x (by simp [hx])]; rfl
  exact go deal fun p hp => hp
theorem lent_ok {k : Nat} {p : R2} (h : PoolOk N k p) : Ok (n_lent_to p) fun l => l.length ≤ 15 ∧ ∀ y, y ∈ l ↔ y ∈ tgtP p := by
  unfold n_lent_to
  refine ok_bind (ok_fold0 (I := fun done (s : List (Nm × Bool)) => s.length ≤ 5 * done.length ∧ ∀ y, y ∈ s.map (·.1) ↔ y ∈ (done.map fun o : R1 => tgts o.2.2).flatten) ⟨Nat.le_refl _, by simp⟩ fun pre o post s hp hi => ?_) fun s hs => ok_some ⟨by rw [List.length_map]; have := h.os; omega, hs.2⟩
  have ho : o ∈ p.2.2.2.2.1 := by rw [hp]; simp
  obtain ⟨r1, r2⟩ := h.rs o ho
  have hpl := congrArg List.length hp
  rw [List.length_append] at hpl
  have hos := h.os
  refine ok_bind (ok_fold0 (I := fun done (s2 : List (Nm × Bool)) => s2.length ≤ s.length + done.length ∧ ∀ y, y ∈ s2.map (·.1) ↔ y ∈ s.map (·.1) ∨ y ∈ tgts done) ⟨Nat.le_refl _, by simp [tgts]⟩ fun pre2 d post2 s2 hp2 hi2 => ?_) fun s2 hs2 => ok_some ⟨by rw [List.length_append, List.length_singleton]; omega, fun y => by rw [hs2.2, hi.2, List.map_append, List.flatten_append, List.mem_append]; simp⟩
  have hd : RuleOk N k d := r2 d (by rw [hp2]; simp)
  have hp2l := congrArg List.length hp2
  rw [List.length_append] at hp2l
  obtain ⟨w, t, e1, e2, _, e3⟩ := id hd
  have hte : tgts (pre2 ++ [d]) = tgts pre2 ++ tgts [d] := by unfold tgts; rw [List.filterMap_append]
  refine ok_eq e1 (ok_eq (show eqQ (eS w) (eS (cod "lend")) = some (decide (w = cod "lend")) from eqQ_g) ?_)
  have htd : tgtD d = if w = cod "lend" then some (some t) else some none := by
    unfold tgtD
    rw [e1, bindS, show eqQ (eS w) (eS (cod "lend")) = some (decide (w = cod "lend")) from eqQ_g, bindS]
    by_cases c : w = cod "lend"
    · rw [if_pos (decide_eq_true c), if_pos c, e2]; rfl
    · rw [if_neg (by simpa using c), if_neg c]
  refine ok_dite (fun c => ?_) fun c => ok_some ⟨by rw [List.length_append]; omega, fun y => ?_⟩
  · refine ok_eq e2 (ok_eq (show asSN (eS t) = some t from rfl) (ok_eq (show DL.putK s2 t true = some (putN s2 t true) from if_pos (by omega)) (ok_some ⟨?_, fun y => ?_⟩)))
    · have : (putN s2 t true).length ≤ s2.length + 1 := by
        unfold putN
        split
        · rw [List.length_map]; omega
        · rw [List.length_append, List.length_singleton]; exact Nat.le_refl _
      rw [List.length_append, List.length_singleton]; omega
    · have hk : y ∈ (putN s2 t true).map (·.1) ↔ y ∈ s2.map (·.1) ∨ y = t := by
        have a1 : ∀ (kv : List (Nm × Bool)), y ∈ kv.map (·.1) ↔ (lkN kv y).isSome = true := fun kv => by
          rw [← lk_any, List.any_eq_true, List.mem_map]
          constructor
          · rintro ⟨q, hq, e⟩; exact ⟨q, hq, decide_eq_true e⟩
          · rintro ⟨q, hq, e⟩; exact ⟨q, hq, of_decide_eq_true e⟩
        rw [a1, a1, lk_put]
        by_cases q : y = t
        · rw [if_pos q]; simp [q]
        · rw [if_neg q]; simp [q]
      have ht1 : tgts [d] = [t] := by unfold tgts; rw [List.filterMap_cons, htd, if_pos c]; rfl
      rw [hk, hi2.2, hte, ht1, List.mem_append, List.mem_singleton, or_assoc]
  · have ht0 : tgts [d] = [] := by unfold tgts; rw [List.filterMap_cons, htd, if_neg c]; rfl
    rw [hi2.2, hte, ht0, List.append_nil]
end K57
namespace K57
open PySem PySem.Spec PyProof.Rows L2 DL
variable {N : List Nm} {deal : List R2} {g : Gr}
def GD (deal : List R2) (g : Gr) : Prop := g.map (·.1) = deal.map (·.1) ∧ ∀ x y, Succ g x y ↔ ∃ p ∈ deal, p.1 = x ∧ y ∈ tgtP p
theorem g_build (h : DealOk N deal) : Ok (fold (fun (x2 : R2) (s1 : (List (Nm × (List Nm)))) =>
    (n_lent_to x2).bind fun x4 =>
    (DL.putK s1 x2.1 x4).bind fun x5 =>
    some x5) deal ([] : List (Nm × (List Nm)))) fun g => g.map (·.1) = deal.map (·.1) ∧ ∀ q ∈ g, ∃ p ∈ deal, q.1 = p.1 ∧ q.2.length ≤ 15 ∧ ∀ y, y ∈ q.2 ↔ y ∈ tgtP p := by
  refine ok_fold0 (I := fun (done : List R2) (g : Gr) => g.map (·.1) = done.map (·.1) ∧ ∀ q ∈ g, ∃ p ∈ deal, q.1 = p.1 ∧ q.2.length ≤ 15 ∧ ∀ y, y ∈ q.2 ↔ y ∈ tgtP p) ⟨rfl, by simp⟩ fun pre p post s hp hi => ?_
  have hpm : p ∈ deal := by rw [hp]; simp
  obtain ⟨k, _, _, _, hk⟩ := pool_at h hpm
  have hl := deal_len h
  have hN := h.len
  have hpl := congrArg List.length hp
  rw [List.length_append] at hpl
  have hsl : s.length = pre.length := by
    have := congrArg List.length hi.1
    rwa [List.length_map, List.length_map] at this
  refine ok_bind (lent_ok hk) fun l hl2 => ?_
  have hnew : p.1 ∉ s.map (·.1) := by
    rw [hi.1]
    have := names_nd h
    rw [hp, List.map_append, List.map_cons] at this
    exact fun z => (List.nodup_append.mp this).2.2 _ z _ (by simp) rfl
  have e : DL.putK s p.1 l = some (s ++ [(p.1, l)]) := by
    unfold DL.putK
    rw [if_pos (by omega)]
    unfold putN
    rw [if_neg (by
      rw [List.any_eq_true]
      rintro ⟨q, hq, e⟩
      exact hnew (List.mem_map.mpr ⟨q, hq, of_decide_eq_true e⟩))]
  refine ok_eq e (ok_some ⟨by rw [List.map_append, List.map_append, hi.1]; rfl, fun q hq => ?_⟩)
  rcases List.mem_append.mp hq with hq | hq
  · exact hi.2 q hq
  · rw [List.mem_singleton.mp hq]
    exact ⟨p, hpm, rfl, hl2.1, hl2.2⟩
theorem g_ok (h : DealOk N deal) (hg : g.map (·.1) = deal.map (·.1) ∧ ∀ q ∈ g, ∃ p ∈ deal, q.1 = p.1 ∧ q.2.length ≤ 15 ∧ ∀ y, y ∈ q.2 ↔ y ∈ tgtP p) : GOk g ∧ GD deal g := by
  have nd : (g.map (·.1)).Nodup := by rw [hg.1]; exact names_nd h
  have inj : ∀ p ∈ deal, ∀ q ∈ deal, p.1 = q.1 → p = q := fun p hp q hq e => by
    obtain ⟨i, _, i1, i2, _⟩ := pool_at h hp
    obtain ⟨j, _, j1, j2, _⟩ := pool_at h hq
    have hn := names_nd h
    have li : i < (deal.map (·.1)).length := by rw [List.length_map]; exact (List.getElem?_eq_some_iff.mp i1).1
    have lj : j < (deal.map (·.1)).length := by rw [List.length_map]; exact (List.getElem?_eq_some_iff.mp j1).1
    have : i = j := by
      have e1 : (deal.map (·.1))[i]? = some p.1 := by rw [List.getElem?_map, i1]; rfl
      have e2 : (deal.map (·.1))[j]? = some p.1 := by rw [List.getElem?_map, j1, e]; rfl
      exact (List.getElem?_inj li hn).mp (e1.trans e2.symm)
    subst this
    rw [i1] at j1
    exact Option.some.inj j1
  have hgl : g.length = deal.length := by
    have := congrArg List.length hg.1
    rwa [List.length_map, List.length_map] at this
  have hl := deal_len h
  have hN := h.len
  refine ⟨⟨nd, by omega, fun q hq => ?_⟩, hg.1, fun x y => ⟨fun ⟨l, h1, h2⟩ => ?_, fun ⟨p, h1, h2, h3⟩ => ?_⟩⟩
  · obtain ⟨p, hp, e1, e2, e3⟩ := hg.2 q hq
    refine ⟨by omega, fun y hy => ?_⟩
    obtain ⟨k, _, _, _, hk⟩ := pool_at h hp
    obtain ⟨o, _, ol, rfl⟩ := (lendsP_eq hk).2.2 y ((e3 y).mp hy)
    rw [hg.1, h.nm]
    exact List.mem_map.mpr ⟨_, getD_mem2 ol, rfl⟩
  · obtain ⟨p, hp, e1, e2, e3⟩ := hg.2 _ (lk_mem h1)
    exact ⟨p, hp, e1.symm, (e3 y).mp h2⟩
  · have hx : x ∈ g.map (·.1) := by rw [hg.1]; exact List.mem_map.mpr ⟨p, h1, h2⟩
    obtain ⟨l, hl⟩ := lk_isSome hx
    obtain ⟨p2, hp2, e1, e2, e3⟩ := hg.2 _ (lk_mem hl)
    have : p2 = p := inj p2 hp2 p h1 (e1.symm.trans h2.symm)
    subst this
    exact ⟨l, hl, (e3 y).mpr h3⟩
theorem no_loop (h : DealOk N deal) (hg : GD deal g) (x : Nm) : ¬ Succ g x x := fun hs => by
  obtain ⟨p, hp, e, hy⟩ := (hg.2 x x).mp hs
  obtain ⟨k, hk, _, e2, hP⟩ := pool_at h hp
  obtain ⟨o, o1, o2, o3⟩ := (lendsP_eq hP).2.2 x hy
  rw [← e, e2] at o3
  have e3 := List.append_cancel_right o3
  have hn := h.nd
  have : N[k]? = N[o]? := by
    rw [List.getD_eq_getElem?_getD, List.getD_eq_getElem?_getD, List.getElem?_eq_getElem hk, List.getElem?_eq_getElem o2] at e3
    rw [List.getElem?_eq_getElem hk, List.getElem?_eq_getElem o2]
    exact congrArg some e3
  exact o1 ((List.getElem?_inj hk hn).mp this).symm
def RingAll (g : Gr) : Option (List Nm) → Prop
  | some r => ∃ name, RP g name (some r)
  | none => ∀ name ∈ g.map (·.1), RP g name none
theorem ring_all (h : DealOk N deal) : ∃ (r : Option (List Nm)) (g : Gr), n_lend_ring deal = some r ∧ GOk g ∧ GD deal g ∧ RingAll g r := by
  obtain ⟨g, hg1, hg2⟩ := g_build h
  obtain ⟨hG, hD⟩ := g_ok h hg2
  have go : ∀ (l : List R2), (∀ p ∈ l, p ∈ deal) → (∃ r, foldB (ρ := Option (List Nm)) (fun (x8 : R2) (s7 : Unit) =>
      (n_ring_through g x8.1).bind fun x11 =>
      (if (!x11.isNone) = true then
      (some (Lp.rt x11))
      else (some (Lp.nx ())))) l () = some (.rt (some r)) ∧ ∃ name, RP g name (some r)) ∨ (foldB (ρ := Option (List Nm)) (fun (x8 : R2) (s7 : Unit) =>
      (n_ring_through g x8.1).bind fun x11 =>
      (if (!x11.isNone) = true then
      (some (Lp.rt x11))
      else (some (Lp.nx ())))) l () = some (.nx ()) ∧ ∀ p ∈ l, RP g p.1 none) := by
    intro l
    induction l with
    | nil => intro _; exact Or.inr ⟨rfl, by simp⟩
    | cons p l ih =>
      intro hl
      obtain ⟨r, hr, hR⟩ := n_ring hG (name := p.1) (by rw [hD.1]; exact List.mem_map.mpr ⟨p, hl p (by simp), rfl⟩)
      cases r with
      | some r =>
        refine Or.inl ⟨r, ?_, p.1, hR⟩
        show (Option.bind _ _).bind _ = _
        rw [hr]; rfl
      | none =>
        rcases ih fun x hx => hl x (by simp [hx]) with ⟨r, h1, h2⟩ | ⟨h1, h2⟩
        · refine Or.inl ⟨r, ?_, h2⟩
          show (Option.bind _ _).bind _ = _
          rw [hr]
          exact h1
        · refine Or.inr ⟨?_, fun x hx => ?_⟩
          · show (Option.bind _ _).bind _ = _
            rw [hr]
            exact h1
          · rcases List.mem_cons.mp hx with rfl | hx
            · exact hR
            · exact h2 x hx
  unfold n_lend_ring
  rw [hg1, bindS]
  rcases go deal fun p hp => hp with ⟨r, h1, h2⟩ | ⟨h1, h2⟩
  · refine ⟨some r, g, ?_, hG, hD, h2⟩
    rw [h1]; rfl
  · refine ⟨none, g, ?_, hG, hD, fun name hn => ?_⟩
    · rw [h1]; rfl
    · rw [hD.1] at hn
      obtain ⟨p, hp, rfl⟩ := List.mem_map.mp hn
      exact h2 p hp
theorem back_at {name : Nm} {ws : Ws} {x : Nm} {P : List Nm} (h : Back g name ws x P) : P[0]? = some x ∧ P[P.length - 1]? = some name ∧ 1 ≤ P.length ∧ ∀ i a b, P[i]? = some a → P[i + 1]? = some b → Succ g b a := by
  induction h with
  | nil => exact ⟨rfl, rfl, Nat.le_refl _, fun i a b h1 h2 => by simp at h2⟩
  | @cons x y P h1 h2 h3 h4 _ ih =>
    obtain ⟨i1, i2, i3, i4⟩ := ih
    refine ⟨rfl, ?_, by rw [List.length_cons]; omega, fun i a b ha hb => ?_⟩
    · rw [List.length_cons, show P.length + 1 - 1 = (P.length - 1) + 1 by omega, List.getElem?_cons_succ]; exact i2
    · cases i with
      | zero =>
        cases ha
        rw [List.getElem?_cons_succ, i1] at hb
        cases hb
        exact h3
      | succ i =>
        rw [List.getElem?_cons_succ] at ha hb
        exact i4 i a b ha hb
theorem ring_at {name : Nm} {r : List Nm} (h : RP g name (some r)) (hno : ∀ x, ¬ Succ g x x) : r.Nodup ∧ 2 ≤ r.length ∧ ∀ (k : Nat), k < r.length → ∃ x y, r[k]? = some x ∧ r[(k + 1) % r.length]? = some y ∧ Succ g x y := by
  obtain ⟨ws, here, P, hB, hS, rfl⟩ := h
  obtain ⟨b1, b2, b3, b4⟩ := back_at hB
  have h2 : 2 ≤ P.length := by
    rcases Nat.lt_or_ge P.length 2 with c | c
    · exfalso
      have : P.length = 1 := by omega
      rw [this, b1] at b2
      have e := Option.some.inj b2
      rw [e] at hS
      exact hno _ hS
    · exact c
  refine ⟨List.pairwise_reverse.mpr (hB.nodup.imp Ne.symm), by rw [List.length_reverse]; exact h2, fun k hk => ?_⟩
  rw [List.length_reverse] at hk ⊢
  by_cases c : k + 1 < P.length
  · rw [Nat.mod_eq_of_lt c, List.getElem?_reverse hk, List.getElem?_reverse c]
    have l1 : P.length - 1 - k < P.length := by omega
    have l2 : P.length - 1 - (k + 1) < P.length := by omega
    refine ⟨_, _, List.getElem?_eq_getElem l1, List.getElem?_eq_getElem l2, ?_⟩
    refine b4 (P.length - 1 - (k + 1)) _ _ (List.getElem?_eq_getElem l2) ?_
    rw [show P.length - 1 - (k + 1) + 1 = P.length - 1 - k by omega]
    exact List.getElem?_eq_getElem l1
  · have ek : k + 1 = P.length := by omega
    rw [ek, Nat.mod_self, List.getElem?_reverse hk, List.getElem?_reverse (by omega), show P.length - 1 - k = 0 by omega, show P.length - 1 - 0 = P.length - 1 by omega]
    exact ⟨_, _, b1, b2, hS⟩
def it (f : Nm → Nm) : Nat → Nm → Nm
  | 0, x => x
  | k + 1, x => f (it f k x)
theorem it_add (f : Nm → Nm) (x : Nm) (b : Nat) : ∀ a, it f (a + b) x = it f a (it f b x)
  | 0 => by rw [Nat.zero_add]; rfl
  | a + 1 => by
    rw [show a + 1 + b = (a + b) + 1 by omega]
    show f (it f (a + b) x) = f (it f a (it f b x))
    rw [it_add f x b a]
theorem no_ring {T : List Nm} (hT : T ≠ []) (hsub : ∀ x ∈ T, x ∈ g.map (·.1)) (hs : ∀ x ∈ T, ∃ y ∈ T, Succ g x y) (hr : ∀ name ∈ g.map (·.1), RP g name none) : False := by
  classical
  obtain ⟨f, hf⟩ : ∃ f : Nm → Nm, ∀ x ∈ T, f x ∈ T ∧ Succ g x (f x) := by
    refine ⟨fun x => if h : x ∈ T then (hs x h).choose else x, fun x hx => ?_⟩
    show (dite _ _ _) ∈ T ∧ Succ g x (dite _ _ _)
    rw [dif_pos hx]
    exact (hs x hx).choose_spec
  obtain ⟨x0, hx0⟩ := List.exists_mem_of_ne_nil T hT
  have hin : ∀ x ∈ T, ∀ k, it f k x ∈ T := fun x hx k => by
    induction k with
    | zero => exact hx
    | succ k ih => exact (hf _ ih).1
  have hne : ∀ y ∈ T, ∀ k, it f (k + 1) y ≠ y := fun y hy k e => by
    obtain ⟨S, hS, hcl⟩ := hr y (hsub y hy)
    have hk : ∀ j, it f j y ∈ S := fun j => by
      induction j with
      | zero => exact hS
      | succ j ih => exact (hcl _ ih _ (hf _ (hin y hy j)).2).2
    exact (hcl _ (hk k) _ (hf _ (hin y hy k)).2).1 e
  have hnd : ((List.range (T.length + 1)).map fun k => it f k x0).Nodup := by
    rw [List.Nodup, List.pairwise_map]
    refine List.Pairwise.imp (fun {i j} hij e => ?_) (List.pairwise_lt_range (n := T.length + 1))
    have : it f j x0 = it f ((j - i - 1) + 1) (it f i x0) := by rw [← it_add]; congr 1; omega
    exact hne _ (hin x0 hx0 i) (j - i - 1) (this.symm.trans e.symm)
  have := sub_len hnd (cs := T) fun z hz => by
    obtain ⟨k, _, rfl⟩ := List.mem_map.mp hz
    exact hin x0 hx0 k
  rw [List.length_map, List.length_range] at this
  omega
theorem left_none_in (q : List Nm → Nm → Bool) (In : Nm → Prop) (hq : ∀ T : List Nm, T ≠ [] → (∀ x ∈ T, In x) → T.filter (q T) ≠ T) : ∀ (n : Nat) (T : List Nm), (∀ x ∈ T, In x) → T.length ≤ n → (Nat.rec T (fun _ S => S.filter (q S)) n : List Nm) = [] := by
  have e : ∀ n, (Nat.rec ([] : List Nm) (fun _ S => S.filter (q S)) n : List Nm) = [] := fun n => by
    induction n with
    | zero => rfl
    | succ n ih => show List.filter _ _ = _; rw [ih]; rfl
  have step : ∀ (n : Nat) (T : List Nm), (Nat.rec T (fun _ S => S.filter (q S)) (n + 1) : List Nm) = (Nat.rec (T.filter (q T)) (fun _ S => S.filter (q S)) n : List Nm) := fun n T => by
    induction n with
    | zero => rfl
    | succ n ih =>
      show List.filter (q (Nat.rec T (fun _ S => S.filter (q S)) (n + 1))) (Nat.rec T (fun _ S => S.filter (q S)) (n + 1)) = List.filter (q (Nat.rec (T.filter (q T)) (fun _ S => S.filter (q S)) n)) (Nat.rec (T.filter (q T)) (fun _ S => S.filter (q S)) n)
      rw [ih]
  intro n
  induction n with
  | zero => intro T _ h; exact List.eq_nil_of_length_eq_zero (by show T.length = 0; omega)
  | succ n ih =>
    intro T hin h
    rw [step]
    by_cases c : T = []
    · subst c; exact e n
    · refine ih _ (fun x hx => hin x ((List.mem_filter.mp hx).1)) ?_
      have h1 := List.length_filter_le (q T) T
      rcases Nat.lt_or_ge (T.filter (q T)).length T.length with h2 | h2
      · omega
      · exact absurd (List.filter_sublist.eq_of_length (by omega)) (hq T c hin)
theorem law_ok (s : List Int) (hl : s.length ≤ 63) : n_law s = some true := by
  obtain ⟨deal, hd, N, hN⟩ := deal_ok s hl
  obtain ⟨r, g, hr, hG, hD, hR⟩ := ring_all hN
  have hdl := deal_len hN
  have hNl := hN.len
  have hlk : ∀ x ∈ deal.map (·.1), ∃ p ∈ deal, p.1 = x ∧ lkN (deal.map fun p => (p.1, tgtP p)) x = some (tgtP p) := fun x hx => by
    obtain ⟨p, hp, rfl⟩ := List.mem_map.mp hx
    refine ⟨p, hp, rfl, lk_of ?_ (List.mem_map.mpr ⟨p, hp, rfl⟩)⟩
    rw [List.map_map]
    exact names_nd hN
  have hdOk : dOk 8 (eLs eR2 deal) = true := dL fun p hp => by
    obtain ⟨k, _, _, _, hP⟩ := pool_at hN hp
    exact hP.d
  unfold n_law
  rw [hd, bindS, lends_eq hN, bindS, hr, bindS, bindS, eqQ_refl 8 (by omega) hdOk, bindS, if_neg (by decide)]
  cases r with
  | none =>
    rw [if_pos (show (none : Option (List Nm)).isNone = true from rfl), compT_eq (by omega), bindS]
    let p : List Nm → Nm → Bool := fun S x => decide ((0 : Int) < ((((lkN (deal.map fun p => (p.1, tgtP p)) x).getD []).filter fun y => decide (y ∈ S)).length : Int))
    have hstep : ∀ S : List Nm, (∀ x ∈ S, x ∈ deal.map (·.1)) → S.length ≤ 6 → compG (fun (x11 : Nm) =>
        (lkN (deal.map fun p => (p.1, tgtP p)) x11).bind fun x12 =>
        (compTF (fun (x13 : Nm) => decide (x13 ∈ S)) (fun (x13 : Nm) => x13) x12).bind fun c14 =>
        (if (decide ((0 : Int) < (c14.length : Int))) = true then (some (some x11)) else some none)) S = some (S.filter (p S)) := fun S hS hl => by
      rw [compG_eq (p := p S) (g := fun x => x) (by omega) fun x hx => ?_]
      · rw [List.map_id']
      · obtain ⟨q, hq, _, e⟩ := hlk x (hS x hx)
        obtain ⟨k, _, _, _, hP⟩ := pool_at hN hq
        have hp : p S x = decide ((0 : Int) < (((tgtP q).filter fun y => decide (y ∈ S)).length : Int)) := by
          show decide _ = _
          rw [e]; rfl
        rw [e, bindS, compTF_eq (by have := (lendsP_eq hP).2.1; omega), bindS, List.map_id', hp]
        split <;> rfl
    have hfold : ∀ (l : List R2) (S : List Nm), (∀ x ∈ S, x ∈ deal.map (·.1)) → S.length ≤ 6 → fold (fun (x9 : R2) (s8 : (List Nm)) =>
        (compG (fun (x11 : Nm) =>
        (lkN (deal.map fun p => (p.1, tgtP p)) x11).bind fun x12 =>
        (compTF (fun (x13 : Nm) => decide (x13 ∈ s8)) (fun (x13 : Nm) => x13) x12).bind fun c14 =>
        (if (decide ((0 : Int) < (c14.length : Int))) = true then (some (some x11)) else some none)) s8).bind fun c15 =>
        some c15) l S = some (Nat.rec S (fun _ S => S.filter (p S)) l.length) := by
      intro l
      induction l with
      | nil => intro S _ _; rfl
      | cons x l ih =>
        intro S hS hl
        have h2 : ∀ y ∈ S.filter (p S), y ∈ deal.map (·.1) := fun y hy => hS y ((List.mem_filter.mp hy).1)
        have h3 := List.length_filter_le (p S) S
        have hrec : ∀ n : Nat, (Nat.rec (S.filter (p S)) (fun _ S => S.filter (p S)) n : List Nm) = Nat.rec S (fun _ S => S.filter (p S)) (n + 1) := fun n => by
          induction n with
          | zero => rfl
          | succ n ih2 =>
            show List.filter (p (Nat.rec (S.filter (p S)) (fun _ S => S.filter (p S)) n)) (Nat.rec (S.filter (p S)) (fun _ S => S.filter (p S)) n) = _
            rw [ih2]
        show (Option.bind _ _).bind _ = _
        rw [hstep S hS hl, bindS]
        refine (ih _ h2 (by omega)).trans ?_
        rw [hrec]; rfl
    have hempty : (Nat.rec (deal.map (·.1)) (fun _ S => S.filter (p S)) deal.length : List Nm) = [] := by
      refine left_none_in p (fun x => x ∈ deal.map (·.1)) (fun T hT hTs e => ?_) _ _ (fun x hx => hx) (by rw [List.length_map]; exact Nat.le_refl _)
      refine no_ring (g := g) hT (fun x hx => by rw [hD.1]; exact hTs x hx) (fun x hx => ?_) hR
      have hx2 := hx
      rw [← e] at hx2
      have hp := (List.mem_filter.mp hx2).2
      obtain ⟨q, hq, e1, e2⟩ := hlk x (hTs x hx)
      have hp : decide ((0 : Int) < ((((lkN (deal.map fun p => (p.1, tgtP p)) x).getD []).filter fun y => decide (y ∈ T)).length : Int)) = true := hp
      rw [e2] at hp
      have hp2 := of_decide_eq_true hp
      have hp3 : 0 < ((tgtP q).filter fun y => decide (y ∈ T)).length := by
        have : (((tgtP q).filter fun y => decide (y ∈ T)).length : Int) = ((((some (tgtP q)).getD []).filter fun y => decide (y ∈ T)).length : Int) := rfl
        omega
      obtain ⟨y, hy⟩ := List.exists_mem_of_length_pos hp3
      obtain ⟨y1, y2⟩ := List.mem_filter.mp hy
      exact ⟨y, of_decide_eq_true y2, (hD.2 x y).mpr ⟨q, hq, e1, y1⟩⟩
    rw [hfold deal _ (fun x hx => hx) (by rw [List.length_map]; omega), hempty, bindS]
    rfl
  | some ring =>
    obtain ⟨name, hRP⟩ := hR
    obtain ⟨r1, r2, r3⟩ := ring_at hRP (no_loop hN hD)
    rw [if_neg (show ¬ (some ring).isNone = true from fun h => by cases h)]
    have hsub : ∀ x ∈ ring, x ∈ deal.map (·.1) := fun x hx => by
      obtain ⟨k, hk, e⟩ := List.mem_iff_getElem.mp hx
      obtain ⟨a, b, h1, h2, h3⟩ := r3 k hk
      rw [List.getElem?_eq_getElem hk, e] at h1
      cases h1
      obtain ⟨q, hq, e1, _⟩ := (hD.2 _ _).mp h3
      exact List.mem_map.mpr ⟨q, hq, e1⟩
    have hrl : ring.length ≤ 6 := by
      have := sub_len r1 hsub
      rw [List.length_map] at this
      omega
    have hset : lenSetN ring = some (ring.length : Int) := if_pos ⟨r1, by omega⟩
    rw [bindS, if_neg (by decide), if_neg (by rw [decide_eq_false (p := (ring.length : Int) < 2) (by omega)]; decide), hset, bindS, bindS, bindS, if_neg (by rw [decide_eq_false (p := (ring.length : Int) < (ring.length : Int)) (by omega)]; decide), bindS]
    have hok : dOk 4 (eLs eS ring) = true := dL fun x hx => by
      obtain ⟨q, hq, e1⟩ := List.mem_map.mp (hsub x hx)
      obtain ⟨k, hk, _, e2, _⟩ := pool_at hN hq
      rw [← e1, e2]
      exact dS (sok_app2 (hN.sok _ (getD_mem2 hk)) (sok_cod _))
    rw [show eqQ (eO (eLs eS) (some ring)) (eLs eS ring) = some true from eqQ_refl 4 (by omega) hok, bindS, if_neg (by decide), rng1_eq (by omega) (by omega), bindS]
    have hfor : ∀ l : List Int, (∀ z ∈ l, 0 ≤ z ∧ z < (ring.length : Int)) → foldB (ρ := Bool) (fun (x26 : Int) (s25 : Unit) =>
        (modN (x26 + (1 : Int)) (ring.length : Int)).bind fun x29 =>
        (atI ring x29).bind fun x30 =>
        (atI ring x26).bind fun x31 =>
        (if (!true) = true then some true else ((atI ring x26).bind fun x32 =>
        (if (!(lkN (deal.map fun p => (p.1, tgtP p)) x32).isSome) = true then some true else ((atI ring x26).bind fun x33 =>
        (lkN (deal.map fun p => (p.1, tgtP p)) x33).bind fun x34 =>
        some (!decide (x30 ∈ x34)))).bind fun x35 =>
        some x35)).bind fun x36 =>
        (if x36 = true then
        (some (Lp.rt false))
        else (some (Lp.nx ())))) l () = some (Lp.nx ()) := by
      intro l
      induction l with
      | nil => intro _; rfl
      | cons z l ih =>
        intro hz
        obtain ⟨z0, z1⟩ := hz z (by simp)
        obtain ⟨k, rfl⟩ : ∃ k : Nat, z = (k : Int) := ⟨z.toNat, by omega⟩
        have hk : k < ring.length := by omega
        obtain ⟨a, b, h1, h2, h3⟩ := r3 k hk
        obtain ⟨q, hq, e1, e2⟩ := (hD.2 _ _).mp h3
        obtain ⟨q2, hq2, e3, e4⟩ := hlk a (List.mem_map.mpr ⟨q, hq, e1⟩)
        have eq2 : b ∈ tgtP q2 := by
          obtain ⟨l2, g1, g2⟩ := h3
          have : Succ g a b := ⟨l2, g1, g2⟩
          have hlq := lk_of (r := deal.map fun p => (p.1, tgtP p)) (k := a) (x := tgtP q) (by rw [List.map_map]; exact names_nd hN) (List.mem_map.mpr ⟨q, hq, by rw [e1]⟩)
          rw [e4] at hlq
          rw [Option.some.inj hlq]; exact e2
        have em : ((k : Int) + 1) % (ring.length : Int) = (((k + 1) % ring.length : Nat) : Int) := by
          first
            | exact (Int.natCast_emod (k + 1) ring.length).symm
            | exact (Int.natCast_mod (k + 1) ring.length).symm
            | exact (Int.ofNat_emod (k + 1) ring.length).symm
            | (push_cast; rfl)
        have hstep : ((modN ((k : Int) + (1 : Int)) (ring.length : Int)).bind fun x29 =>
            (atI ring x29).bind fun x30 =>
            (atI ring (k : Int)).bind fun x31 =>
            (if (!true) = true then some true else ((atI ring (k : Int)).bind fun x32 =>
            (if (!(lkN (deal.map fun p => (p.1, tgtP p)) x32).isSome) = true then some true else ((atI ring (k : Int)).bind fun x33 =>
            (lkN (deal.map fun p => (p.1, tgtP p)) x33).bind fun x34 =>
            some (!decide (x30 ∈ x34)))).bind fun x35 =>
            some x35)).bind fun x36 =>
            (if x36 = true then
            (some (Lp.rt false))
            else (some (Lp.nx ())))) = (some (Lp.nx ()) : Option (Lp Unit Bool)) := by
          rw [modN_eq (by omega), bindS, em, atI_g h2, bindS, atI_g h1, bindS, if_neg (by decide), bindS, e4, if_neg (show ¬ ((!(some (tgtP q2)).isSome) = true) from fun h => by cases h), bindS, e4, bindS, bindS, bindS, if_neg (by rw [decide_eq_true eq2]; decide)]
        show (Option.bind _ _).bind _ = _
        rw [hstep]
        exact ih fun y hy => hz y (by simp [hy])
    rw [hfor _ fun z hz => by have := rngN_mem hz; omega]
    rfl
theorem law_true (ns : List Int) (hl : ns.length ≤ 63) (hb : ∀ z ∈ ns, Builtin.Int.intBits z ≤ 1048576) : phi_law [.lst (ns.map D.int)] = some (.p (.bl true)) := l_law (r := true) (law_ok ns hl)
end K57
set_option maxHeartbeats 4000000
open PySem PySem.W PyProof.Rows
set_option maxHeartbeats 0 in
theorem PySem.Challenge.cw_tranchefall_k57_ring_of_lenders_holds : PySem.Challenge.rw_tranchefall_k57_ring_of_lenders.Holds := by
  w_on; o_law; k_head; (case hw => w_witness2)
  k_fill
  refine DL.walk_D (l := PySem.Challenge.rw_tranchefall_k57_ring_of_lenders) (n := 63) (k := 4) (x := "_law_script") (φ := K57.phi_law) rfl (by decide) rfl ⟨rfl, by decide, by decide⟩ (fun w h Y => PySem.W.kIn_of Y) ?F K57.law_true
  case F =>
    intro w mg fa h KX G hmg
    refine' K57.all_mk KX G hmg ?a1 ?l1 ?c1 ?k1 ?a2 ?l2 ?c2 ?k2 ?a3 ?l3 ?c3 ?k3 ?a4 ?l4 ?c4 ?k4 ?a5 ?l5 ?c5 ?k5 ?a6 ?l6 ?c6 ?k6 ?a7 ?l7 ?c7 ?k7 ?a8 ?l8 ?c8 ?k8 ?a9 ?l9 ?c9 ?k9 ?a10 ?l10 ?c10 ?k10 ?a11 ?l11 ?c11 ?k11 ?z1 ?z2 ?z3 ?z4 ?z5 ?z6 ?z7 ?z8
    (case a1 => k_is); (case l1 => k_is); (case c1 => k_is); (case k1 => k_is); (case a2 => k_is); (case l2 => k_is); (case c2 => k_is); (case k2 => k_is); (case a3 => k_is); (case l3 => k_is); (case c3 => k_is); (case k3 => k_is); (case a4 => k_is); (case l4 => k_is); (case c4 => k_is); (case k4 => k_is); (case a5 => k_is); (case l5 => k_is); (case c5 => k_is); (case k5 => k_is); (case a6 => k_is); (case l6 => k_is); (case c6 => k_is); (case k6 => k_is); (case a7 => k_is); (case l7 => k_is); (case c7 => k_is); (case k7 => k_is); (case a8 => k_is); (case l8 => k_is); (case c8 => k_is); (case k8 => k_is); (case a9 => k_is); (case l9 => k_is); (case c9 => k_is); (case k9 => k_is); (case a10 => k_is); (case l10 => k_is); (case c10 => k_is); (case k10 => k_is); (case a11 => k_is); (case l11 => k_is); (case c11 => k_is); (case k11 => k_is); (case z1 => k_is); (case z2 => k_is); (case z3 => k_is); (case z4 => k_is); (case z5 => k_is); (case z6 => k_is); (case z7 => k_is); (case z8 => k_is)
