import PyProof.Rows.All
import Wide.All
import OpenK.AllK
import Wide.FinOn
import HandS.ForMost
import HandS.Wide
import HandS.EndBits
import HandS.IsInst
import KE.KDictKeyed
import KE.KDictDisplayH
import HandS.RaiseMore
import HandS.Zip
import KE.KDictList
import HandS.More
import HandS.ListItems
import HandS.Replace
import HandS.Rev
import HandS.TupSets
import KE.KSortTupG
import KE.LtData
import KE.GoesMore
import KE.GoesEnum
import KE.KDictWalk
import HandS.MapSum
import KE.KTupSum
import HandS.DictTup
import KE.SortData
import KE.KDictPairs
import HandS.SortInts
import HandS.Deep
import HandS.TupLen
import HandS.TupAny
import KE.KUnpack
import PySem.Challenge.RW_tranchefall_k15_whole_each_coin_once
set_option Elab.async false
set_option linter.all false
set_option maxRecDepth 100000
structure DL.KW where
  F : PySem.W.Frag
  P : PySem.Program
  w : PySem.World
instance : CoeOut DL.KW PySem.W.Frag := ⟨DL.KW.F⟩
abbrev L2.Cx.kw (X : L2.Cx) : DL.KW := ⟨X.K, X.prog, X.w⟩
namespace DL
open PySem PySem.Spec PyProof.Rows L2
abbrev St := L2.St
inductive D where
  | non | bl (b : Bool) | int (i : Int) | str (s : Str) | lst (ds : List D) | tup (ds : List D) | dic (kvs : List (Key × D)) | dit (kvs : List (List Key × D)) | obj (n : Str) (fs : List (Str × D)) | al (a : Addr) | tux (ds : List D) | din (kvs : List (NestedKey × D))
inductive T where
  | p (d : D) | lst (ts : List T) | tup (ts : List T) | dic (kvs : List (Key × T)) | dit (kvs : List (List Key × T)) | obj (n : Str) (fs : List (Str × T)) | box (a : Addr) (t : T) | al (a : Addr) | din (kvs : List (NestedKey × D))
mutual
def T.toD : T → D
  | .p d => d
  | .lst ts => .lst (T.toDs ts)
  | .tup ts => .tup (T.toDs ts)
  | .dic kvs => .dic (T.toKs kvs)
  | .dit kvs => .dit (T.toKt kvs)
  | .obj n fs => .obj n (T.toKf fs)
  | .box _ t => t.toD
  | .al a => .al a
  | .din kvs => .din kvs
def T.toDs : List T → List D
  | [] => []
  | t :: ts => t.toD :: T.toDs ts
def T.toKs : List (Key × T) → List (Key × D)
  | [] => []
  | (k, t) :: r => (k, t.toD) :: T.toKs r
def T.toKt : List (List Key × T) → List (List Key × D)
  | [] => []
  | (k, t) :: r => (k, t.toD) :: T.toKt r
def T.toKf : List (Str × T) → List (Str × D)
  | [] => []
  | (k, t) :: r => (k, t.toD) :: T.toKf r
end
theorem toDs_map : ∀ ts : List T, T.toDs ts = ts.map T.toD
  | [] => rfl
  | t :: ts => by rw [T.toDs, toDs_map ts]; rfl
theorem toDs_p (ds : List D) : T.toDs (ds.map T.p) = ds := by
  rw [toDs_map, List.map_map]
  show ds.map (fun d => (T.p d).toD) = ds
  simp [T.toD]
def Fix (u : HO) : Prop := (∃ xs, u = .tup xs) ∨ ∃ o xs, u = .frz o (.tup xs)
theorem Fix.t {xs : List V} : Fix (.tup xs) := .inl ⟨xs, rfl⟩
theorem Fix.f {o : Obj} {xs : List V} : Fix (.frz o (.tup xs)) := .inr ⟨o, xs, rfl⟩
def ClsN (K : PySem.W.Frag) (n : Str) (C : Addr) : Prop := PySem.W.nsIn K mainGlobals n = some (some (.ref C))
mutual
def NkV (G : Hp) : NestedKey → V → Prop
  | .none, v => v = .non
  | .num i, v => v = .int i ∨ ∃ b : Bool, v = .bl b ∧ i = if b = true then 1 else 0
  | .text s, v => v = .str s
  | .tup ks, v => ∃ a vs, v = .ref a ∧ Rd G a (.tup vs) ∧ NkVs G ks vs
def NkVs (G : Hp) : List NestedKey → List V → Prop
  | [], vs => vs = []
  | k :: ks, vs => ∃ v r, vs = v :: r ∧ NkV G k v ∧ NkVs G ks r
end
def nOk (P : Program) (w : World) (a : Addr) (ws : List (NestedKey × Addr × V)) (h : Heap) : Prop := ws.length ≤ sizeLine ∧ (a == sysModules) = false ∧ ∃ xs : List (NestedKey × Addr × Value),
  Paired (fun (p : NestedKey × Addr × V) (q : NestedKey × Addr × Value) => p.1 = q.1 ∧ p.2.1 = q.2.1 ∧ RelV p.2.2 q.2.2) ws xs ∧
  ∃ o es ep, h.get? a = some o ∧ o.ExactDict ∧ o.data = .dict es ep ∧ es.toList = xs.map (entryOfKey (nestedKind P w)) ∧ (xs.map (·.1)).Nodup
def nHO (K : KW) (a : Addr) (ws : List (NestedKey × Addr × V)) : HO := .ext (nOk K.P K.w a ws)
mutual
def RpD (K : KW) (G : Hp) : D → V → Prop
  | .non, v => v = .non
  | .bl b, v => v = .bl b
  | .int i, v => v = .int i
  | .str s, v => v = .str s
  | .lst ds, v => ∃ a vs, v = .ref a ∧ Rd G a (.lst vs) ∧ RpDs K G ds vs
  | .tup ds, v => ∃ a vs, v = .ref a ∧ G a = some (.tup vs) ∧ RpDs K G ds vs
  | .dic kvs, v => ∃ a ws, v = .ref a ∧ Rd G a (.dK ws) ∧ RpKs K G kvs ws
  | .dit kvs, v => ∃ a ws, v = .ref a ∧ Rd G a (.dT ws) ∧ RpKt K G kvs ws
  | .obj n fs, v => ∃ a C dx ws, v = .ref a ∧ ClsN K n C ∧ G a = some (.ins C dx ws) ∧ RpKf K G fs ws
  | .al a, v => a ≠ 0 → v = .ref (a - 1)
  | .tux ds, v => ∃ a o vs, v = .ref a ∧ G a = some (.frz o (.tup vs)) ∧ o.dict = none ∧ RpDs K G ds vs
  | .din kvs, v => ∃ a ws, v = .ref a ∧ Rd G a (nHO K a ws) ∧ RpKn K G kvs ws
def RpDs (K : KW) (G : Hp) : List D → List V → Prop
  | [], vs => vs = []
  | d :: ds, vs => ∃ v r, vs = v :: r ∧ RpD K G d v ∧ RpDs K G ds r
def RpKs (K : KW) (G : Hp) : List (Key × D) → List (Key × V) → Prop
  | [], vs => vs = []
  | (k, d) :: ds, vs => ∃ v r, vs = (k, v) :: r ∧ RpD K G d v ∧ RpKs K G ds r
def RpKt (K : KW) (G : Hp) : List (List Key × D) → List (List Key × V) → Prop
  | [], vs => vs = []
  | (k, d) :: ds, vs => ∃ v r, vs = (k, v) :: r ∧ RpD K G d v ∧ RpKt K G ds r
def RpKf (K : KW) (G : Hp) : List (Str × D) → List (Str × V) → Prop
  | [], vs => vs = []
  | (k, d) :: ds, vs => ∃ v r, vs = (k, v) :: r ∧ RpD K G d v ∧ RpKf K G ds r
def RpKn (K : KW) (G : Hp) : List (NestedKey × D) → List (NestedKey × Addr × V) → Prop
  | [], vs => vs = []
  | (k, d) :: ds, vs => ∃ b v r, vs = (k, b, v) :: r ∧ k.depth ≤ 8 ∧ NkV G k (.ref b) ∧ RpD K G d v ∧ RpKn K G ds r
end
theorem Same.rd {H H' : Hp} {a : Addr} {u : HO} (e : Same H H') (h : Rd H a u) : Rd H' a u := by
  rcases h with h | ⟨o, h⟩
  · exact .inl (e _ _ h)
  · exact .inr ⟨o, e _ _ h⟩
theorem tup_seq {K : PySem.W.Frag} {G H : Hp} {a : Addr} {xs : List V} (s : Same G H) (h : G a = some (.tup xs)) : SqT K H a xs := .inl (.inl (s a _ h))
theorem tup_sq {K : PySem.W.Frag} {G : Hp} {a : Addr} {xs : List V} (h : G a = some (.tup xs)) : SqT K G a xs := .inl (.inl h)
theorem Same.sqT {K : PySem.W.Frag} {H H' : Hp} {a : Addr} {xs : List V} (e : Same H H') (h : SqT K H a xs) : SqT K H' a xs := by
  rcases h with (h | ⟨o, h⟩) | h
  · exact .inl (.inl (e _ _ h))
  · exact .inl (.inr ⟨o, e _ _ h⟩)
  · exact .inr h
mutual
theorem NkV.mono {G G' : Hp} (e : Same G G') : ∀ (k : NestedKey) {v : V}, NkV G k v → NkV G' k v
  | .none, _, h => h
  | .num _, _, h => h
  | .text _, _, h => h
  | .tup ks, _, ⟨a, vs, h1, h2, h3⟩ => ⟨a, vs, h1, Same.rd e h2, NkVs.mono e ks h3⟩
theorem NkVs.mono {G G' : Hp} (e : Same G G') : ∀ (ks : List NestedKey) {vs : List V}, NkVs G ks vs → NkVs G' ks vs
  | [], _, h => h
  | k :: ks, _, ⟨v, r, h1, h2, h3⟩ => ⟨v, r, h1, NkV.mono e k h2, NkVs.mono e ks h3⟩
end
section
variable {K : KW} {G G' H H' : Hp}
mutual
theorem RpD.mono (e : Same G G') : ∀ (d : D) {v : V}, RpD K G d v → RpD K G' d v
  | .non, _, h => h
  | .bl _, _, h => h
  | .int _, _, h => h
  | .str _, _, h => h
  | .lst ds, _, ⟨a, vs, h1, h2, h3⟩ => ⟨a, vs, h1, Same.rd e h2, RpDs.mono e ds h3⟩
  | .tup ds, _, ⟨a, vs, h1, h2, h3⟩ => ⟨a, vs, h1, e a _ h2, RpDs.mono e ds h3⟩
  | .dic kvs, _, ⟨a, ws, h1, h2, h3⟩ => ⟨a, ws, h1, Same.rd e h2, RpKs.mono e kvs h3⟩
  | .dit kvs, _, ⟨a, ws, h1, h2, h3⟩ => ⟨a, ws, h1, Same.rd e h2, RpKt.mono e kvs h3⟩
  | .obj n fs, _, ⟨a, C, dx, ws, h1, h2, h3, h4⟩ => ⟨a, C, dx, ws, h1, h2, e _ _ h3, RpKf.mono e fs h4⟩
  | .al _, _, h => h
  | .tux ds, _, ⟨a, o, vs, h1, h2, h4, h3⟩ => ⟨a, o, vs, h1, e a _ h2, h4, RpDs.mono e ds h3⟩
  | .din kvs, _, ⟨a, ws, h1, h2, h3⟩ => ⟨a, ws, h1, Same.rd e h2, RpKn.mono e kvs h3⟩
theorem RpDs.mono (e : Same G G') : ∀ (ds : List D) {vs : List V}, RpDs K G ds vs → RpDs K G' ds vs
  | [], _, h => h
  | d :: ds, _, ⟨v, r, h1, h2, h3⟩ => ⟨v, r, h1, RpD.mono e d h2, RpDs.mono e ds h3⟩
theorem RpKs.mono (e : Same G G') : ∀ (ds : List (Key × D)) {vs : List (Key × V)}, RpKs K G ds vs → RpKs K G' ds vs
  | [], _, h => h
  | (k, d) :: ds, _, ⟨v, r, h1, h2, h3⟩ => ⟨v, r, h1, RpD.mono e d h2, RpKs.mono e ds h3⟩
theorem RpKt.mono (e : Same G G') : ∀ (ds : List (List Key × D)) {vs : List (List Key × V)}, RpKt K G ds vs → RpKt K G' ds vs
  | [], _, h => h
  | (k, d) :: ds, _, ⟨v, r, h1, h2, h3⟩ => ⟨v, r, h1, RpD.mono e d h2, RpKt.mono e ds h3⟩
theorem RpKf.mono (e : Same G G') : ∀ (ds : List (Str × D)) {vs : List (Str × V)}, RpKf K G ds vs → RpKf K G' ds vs
  | [], _, h => h
  | (k, d) :: ds, _, ⟨v, r, h1, h2, h3⟩ => ⟨v, r, h1, RpD.mono e d h2, RpKf.mono e ds h3⟩
theorem RpKn.mono (e : Same G G') : ∀ (ds : List (NestedKey × D)) {vs : List (NestedKey × Addr × V)}, RpKn K G ds vs → RpKn K G' ds vs
  | [], _, h => h
  | (k, d) :: ds, _, ⟨b, v, r, h1, h0, h4, h2, h3⟩ => ⟨b, v, r, h1, h0, NkV.mono e k h4, RpD.mono e d h2, RpKn.mono e ds h3⟩
end
theorem RpDs.len : ∀ {ds : List D} {vs : List V}, RpDs K G ds vs → vs.length = ds.length
  | [], _, h => by rw [show _ = _ from h]; rfl
  | d :: ds, _, ⟨v, r, h1, h2, h3⟩ => by rw [h1, List.length_cons, List.length_cons, RpDs.len h3]
theorem RpDs.get : ∀ {ds : List D} {vs : List V} {i : Nat} {d : D}, RpDs K G ds vs → ds[i]? = some d → ∃ v, vs[i]? = some v ∧ RpD K G d v
  | [], _, _, _, _, e => by simp at e
  | d :: ds, _, 0, d', ⟨v, r, h1, h2, h3⟩, e => by
    simp at e; subst e; subst h1; exact ⟨v, rfl, h2⟩
  | d :: ds, _, i + 1, d', ⟨v, r, h1, h2, h3⟩, e => by
    subst h1
    obtain ⟨u, h4, h5⟩ := RpDs.get (i := i) h3 (by simpa using e)
    exact ⟨u, by simpa using h4, h5⟩
theorem RpDs.append : ∀ {ds es : List D} {vs ws : List V}, RpDs K G ds vs → RpDs K G es ws → RpDs K G (ds ++ es) (vs ++ ws)
  | [], _, _, _, h, h' => by rw [show _ = _ from h]; exact h'
  | d :: ds, _, _, _, ⟨v, r, h1, h2, h3⟩, h' => by
    subst h1
    exact ⟨v, r ++ _, rfl, h2, RpDs.append h3 h'⟩
theorem RpDs.take : ∀ {ds : List D} {vs : List V} (n : Nat), RpDs K G ds vs → RpDs K G (ds.take n) (vs.take n)
  | ds, vs, 0, _ => by simp [RpDs]
  | [], _, n + 1, h => by rw [show _ = _ from h]; simp [RpDs]
  | d :: ds, _, n + 1, ⟨v, r, h1, h2, h3⟩ => by
    subst h1
    exact ⟨v, r.take n, rfl, h2, RpDs.take n h3⟩
theorem RpDs.drop : ∀ {ds : List D} {vs : List V} (n : Nat), RpDs K G ds vs → RpDs K G (ds.drop n) (vs.drop n)
  | ds, vs, 0, h => by simpa using h
  | [], _, n + 1, h => by rw [show _ = _ from h]; simp [RpDs]
  | d :: ds, _, n + 1, ⟨v, r, h1, h2, h3⟩ => by
    subst h1
    simpa using RpDs.drop n h3
mutual
def Rp (K : KW) (G H : Hp) : T → V → List Addr → Prop
  | .p d, v, o => RpD K G d v ∧ o = []
  | .lst ts, v, o => ∃ a vs o', v = .ref a ∧ H a = some (.lst vs) ∧ RpTs K G H ts vs o' ∧ o = a :: o'
  | .tup ts, v, o => ∃ a vs, v = .ref a ∧ G a = some (.tup vs) ∧ RpTs K G H ts vs o
  | .dic kvs, v, o => ∃ a ws o', v = .ref a ∧ H a = some (.dK ws) ∧ RpTk K G H kvs ws o' ∧ o = a :: o'
  | .dit kvs, v, o => ∃ a ws o', v = .ref a ∧ H a = some (.dT ws) ∧ RpTt K G H kvs ws o' ∧ o = a :: o'
  | .obj n fs, v, o => ∃ a C dx ws o', v = .ref a ∧ ClsN K n C ∧ H a = some (.ins C dx ws) ∧ RpTf K G H fs ws o' ∧ o = a :: o'
  | .box a t, v, o => v = .ref a ∧ Rp K G H t v o
  | .al a, v, o => (a ≠ 0 → v = .ref (a - 1)) ∧ o = []
  | .din kvs, v, o => ∃ a ws, v = .ref a ∧ H a = some (nHO K a ws) ∧ RpKn K G kvs ws ∧ o = [a]
def RpTs (K : KW) (G H : Hp) : List T → List V → List Addr → Prop
  | [], vs, o => vs = [] ∧ o = []
  | t :: ts, vs, o => ∃ v r o1 o2, vs = v :: r ∧ Rp K G H t v o1 ∧ RpTs K G H ts r o2 ∧ o = o1 ++ o2
def RpTk (K : KW) (G H : Hp) : List (Key × T) → List (Key × V) → List Addr → Prop
  | [], vs, o => vs = [] ∧ o = []
  | (k, t) :: ts, vs, o => ∃ v r o1 o2, vs = (k, v) :: r ∧ Rp K G H t v o1 ∧ RpTk K G H ts r o2 ∧ o = o1 ++ o2
def RpTt (K : KW) (G H : Hp) : List (List Key × T) → List (List Key × V) → List Addr → Prop
  | [], vs, o => vs = [] ∧ o = []
  | (k, t) :: ts, vs, o => ∃ v r o1 o2, vs = (k, v) :: r ∧ Rp K G H t v o1 ∧ RpTt K G H ts r o2 ∧ o = o1 ++ o2
def RpTf (K : KW) (G H : Hp) : List (Str × T) → List (Str × V) → List Addr → Prop
  | [], vs, o => vs = [] ∧ o = []
  | (k, t) :: ts, vs, o => ∃ v r o1 o2, vs = (k, v) :: r ∧ Rp K G H t v o1 ∧ RpTf K G H ts r o2 ∧ o = o1 ++ o2
end
mutual
theorem Rp.mono (e : Same G G') : ∀ (t : T) {v : V} {o : List Addr}, (∀ a ∈ o, H' a = H a) → Rp K G H t v o → Rp K G' H' t v o
  | .p d, _, _, _, ⟨h1, h2⟩ => ⟨RpD.mono e d h1, h2⟩
  | .lst ts, _, _, k, ⟨a, vs, o', h1, h2, h3, h4⟩ => ⟨a, vs, o', h1, by rw [k a (by rw [h4]; simp)]; exact h2, RpTs.mono e ts (fun b hb => k b (by rw [h4]; simp [hb])) h3, h4⟩
  | .tup ts, _, _, k, ⟨a, vs, h1, h2, h3⟩ => ⟨a, vs, h1, e a _ h2, RpTs.mono e ts k h3⟩
  | .dic kvs, _, _, k, ⟨a, ws, o', h1, h2, h3, h4⟩ => ⟨a, ws, o', h1, by rw [k a (by rw [h4]; simp)]; exact h2, RpTk.mono e kvs (fun b hb => k b (by rw [h4]; simp [hb])) h3, h4⟩
  | .dit kvs, _, _, k, ⟨a, ws, o', h1, h2, h3, h4⟩ => ⟨a, ws, o', h1, by rw [k a (by rw [h4]; simp)]; exact h2, RpTt.mono e kvs (fun b hb => k b (by rw [h4]; simp [hb])) h3, h4⟩
  | .obj n fs, _, _, k, ⟨a, C, dx, ws, o', h1, h0, h2, h3, h4⟩ => ⟨a, C, dx, ws, o', h1, h0, by rw [k a (by rw [h4]; simp)]; exact h2, RpTf.mono e fs (fun b hb => k b (by rw [h4]; simp [hb])) h3, h4⟩
  | .box a t, _, _, k, ⟨h1, h2⟩ => ⟨h1, Rp.mono e t k h2⟩
  | .al a, _, _, _, h => h
  | .din kvs, _, _, k, ⟨a, ws, h1, h2, h3, h4⟩ => ⟨a, ws, h1, by rw [k a (by rw [h4]; simp)]; exact h2, RpKn.mono e kvs h3, h4⟩
theorem RpTs.mono (e : Same G G') : ∀ (ts : List T) {vs : List V} {o : List Addr}, (∀ a ∈ o, H' a = H a) → RpTs K G H ts vs o → RpTs K G' H' ts vs o
  | [], _, _, _, h => h
  | t :: ts, _, _, k, ⟨v, r, o1, o2, h1, h2, h3, h4⟩ => ⟨v, r, o1, o2, h1, Rp.mono e t (fun b hb => k b (by rw [h4]; simp [hb])) h2, RpTs.mono e ts (fun b hb => k b (by rw [h4]; simp [hb])) h3, h4⟩
theorem RpTk.mono (e : Same G G') : ∀ (ts : List (Key × T)) {vs : List (Key × V)} {o : List Addr}, (∀ a ∈ o, H' a = H a) → RpTk K G H ts vs o → RpTk K G' H' ts vs o
  | [], _, _, _, h => h
  | (_, t) :: ts, _, _, k, ⟨v, r, o1, o2, h1, h2, h3, h4⟩ => ⟨v, r, o1, o2, h1, Rp.mono e t (fun b hb => k b (by rw [h4]; simp [hb])) h2, RpTk.mono e ts (fun b hb => k b (by rw [h4]; simp [hb])) h3, h4⟩
theorem RpTt.mono (e : Same G G') : ∀ (ts : List (List Key × T)) {vs : List (List Key × V)} {o : List Addr}, (∀ a ∈ o, H' a = H a) → RpTt K G H ts vs o → RpTt K G' H' ts vs o
  | [], _, _, _, h => h
  | (_, t) :: ts, _, _, k, ⟨v, r, o1, o2, h1, h2, h3, h4⟩ => ⟨v, r, o1, o2, h1, Rp.mono e t (fun b hb => k b (by rw [h4]; simp [hb])) h2, RpTt.mono e ts (fun b hb => k b (by rw [h4]; simp [hb])) h3, h4⟩
theorem RpTf.mono (e : Same G G') : ∀ (ts : List (Str × T)) {vs : List (Str × V)} {o : List Addr}, (∀ a ∈ o, H' a = H a) → RpTf K G H ts vs o → RpTf K G' H' ts vs o
  | [], _, _, _, h => h
  | (_, t) :: ts, _, _, k, ⟨v, r, o1, o2, h1, h2, h3, h4⟩ => ⟨v, r, o1, o2, h1, Rp.mono e t (fun b hb => k b (by rw [h4]; simp [hb])) h2, RpTf.mono e ts (fun b hb => k b (by rw [h4]; simp [hb])) h3, h4⟩
end
mutual
theorem Rp.flat {o : List Addr} (e : Same G G') (k : ∀ a ∈ o, G' a = H a) : ∀ (t : T) {v : V}, Rp K G H t v o → RpD K G' t.toD v
  | .p d, _, ⟨h1, h2⟩ => RpD.mono e d h1
  | .lst ts, _, ⟨a, vs, o', h1, h2, h3, h4⟩ => ⟨a, vs, h1, .inl (by rw [k a (by rw [h4]; simp)]; exact h2), RpTs.flat e (fun b hb => k b (by rw [h4]; simp [hb])) ts h3⟩
  | .tup ts, _, ⟨a, vs, h1, h2, h3⟩ => ⟨a, vs, h1, e a _ h2, RpTs.flat e k ts h3⟩
  | .dic kvs, _, ⟨a, ws, o', h1, h2, h3, h4⟩ => ⟨a, ws, h1, .inl (by rw [k a (by rw [h4]; simp)]; exact h2), RpTk.flat e (fun b hb => k b (by rw [h4]; simp [hb])) kvs h3⟩
  | .dit kvs, _, ⟨a, ws, o', h1, h2, h3, h4⟩ => ⟨a, ws, h1, .inl (by rw [k a (by rw [h4]; simp)]; exact h2), RpTt.flat e (fun b hb => k b (by rw [h4]; simp [hb])) kvs h3⟩
  | .obj n fs, _, ⟨a, C, dx, ws, o', h1, h0, h2, h3, h4⟩ => ⟨a, C, dx, ws, h1, h0, (by rw [k a (by rw [h4]; simp)]; exact h2), RpTf.flat e (fun b hb => k b (by rw [h4]; simp [hb])) fs h3⟩
  | .box a t, _, ⟨h1, h2⟩ => Rp.flat e k t h2
  | .al a, _, ⟨h1, h2⟩ => h1
  | .din kvs, _, ⟨a, ws, h1, h2, h3, h4⟩ => ⟨a, ws, h1, .inl (by rw [k a (by rw [h4]; simp)]; exact h2), RpKn.mono e kvs h3⟩
theorem RpTs.flat {o : List Addr} (e : Same G G') (k : ∀ a ∈ o, G' a = H a) : ∀ (ts : List T) {vs : List V}, RpTs K G H ts vs o → RpDs K G' (T.toDs ts) vs
  | [], _, ⟨h, _⟩ => h
  | t :: ts, _, ⟨v, r, o1, o2, h1, h2, h3, h4⟩ => ⟨v, r, h1, Rp.flat e (fun b hb => k b (by rw [h4]; simp [hb])) t h2, RpTs.flat e (fun b hb => k b (by rw [h4]; simp [hb])) ts h3⟩
theorem RpTk.flat {o : List Addr} (e : Same G G') (k : ∀ a ∈ o, G' a = H a) : ∀ (ts : List (Key × T)) {vs : List (Key × V)}, RpTk K G H ts vs o → RpKs K G' (T.toKs ts) vs
  | [], _, ⟨h, _⟩ => h
  | (_, t) :: ts, _, ⟨v, r, o1, o2, h1, h2, h3, h4⟩ => ⟨v, r, h1, Rp.flat e (fun b hb => k b (by rw [h4]; simp [hb])) t h2, RpTk.flat e (fun b hb => k b (by rw [h4]; simp [hb])) ts h3⟩
theorem RpTt.flat {o : List Addr} (e : Same G G') (k : ∀ a ∈ o, G' a = H a) : ∀ (ts : List (List Key × T)) {vs : List (List Key × V)}, RpTt K G H ts vs o → RpKt K G' (T.toKt ts) vs
  | [], _, ⟨h, _⟩ => h
  | (_, t) :: ts, _, ⟨v, r, o1, o2, h1, h2, h3, h4⟩ => ⟨v, r, h1, Rp.flat e (fun b hb => k b (by rw [h4]; simp [hb])) t h2, RpTt.flat e (fun b hb => k b (by rw [h4]; simp [hb])) ts h3⟩
theorem RpTf.flat {o : List Addr} (e : Same G G') (k : ∀ a ∈ o, G' a = H a) : ∀ (ts : List (Str × T)) {vs : List (Str × V)}, RpTf K G H ts vs o → RpKf K G' (T.toKf ts) vs
  | [], _, ⟨h, _⟩ => h
  | (_, t) :: ts, _, ⟨v, r, o1, o2, h1, h2, h3, h4⟩ => ⟨v, r, h1, Rp.flat e (fun b hb => k b (by rw [h4]; simp [hb])) t h2, RpTf.flat e (fun b hb => k b (by rw [h4]; simp [hb])) ts h3⟩
end
mutual
theorem Rp.there : ∀ (t : T) {v : V} {o : List Addr}, Rp K G H t v o → ∀ a ∈ o, ∃ u, H a = some u ∧ ¬ Fix u
  | .p d, _, _, ⟨h1, h2⟩, b, hb => by rw [h2] at hb; cases hb
  | .lst ts, _, _, ⟨a, vs, o', h1, h2, h3, h4⟩, b, hb => by
    rw [h4] at hb
    rcases List.mem_cons.mp hb with e | hb
    · rw [e]; exact ⟨_, h2, fun z => by rcases z with ⟨_, z⟩ | ⟨_, _, z⟩ <;> cases z⟩
    · exact RpTs.there ts h3 b hb
  | .tup ts, _, _, ⟨a, vs, h1, h2, h3⟩, b, hb => RpTs.there ts h3 b hb
  | .dic kvs, _, _, ⟨a, ws, o', h1, h2, h3, h4⟩, b, hb => by
    rw [h4] at hb
    rcases List.mem_cons.mp hb with e | hb
    · rw [e]; exact ⟨_, h2, fun z => by rcases z with ⟨_, z⟩ | ⟨_, _, z⟩ <;> cases z⟩
    · exact RpTk.there kvs h3 b hb
  | .dit kvs, _, _, ⟨a, ws, o', h1, h2, h3, h4⟩, b, hb => by
    rw [h4] at hb
    rcases List.mem_cons.mp hb with e | hb
    · rw [e]; exact ⟨_, h2, fun z => by rcases z with ⟨_, z⟩ | ⟨_, _, z⟩ <;> cases z⟩
    · exact RpTt.there kvs h3 b hb
  | .obj n kvs, _, _, ⟨a, C, dx, ws, o', h1, h0, h2, h3, h4⟩, b, hb => by
    rw [h4] at hb
    rcases List.mem_cons.mp hb with e | hb
    · rw [e]; exact ⟨_, h2, fun z => by rcases z with ⟨_, z⟩ | ⟨_, _, z⟩ <;> cases z⟩
    · exact RpTf.there kvs h3 b hb
  | .box a t, _, _, ⟨h1, h2⟩, b, hb => Rp.there t h2 b hb
  | .al a, _, _, ⟨h1, h2⟩, b, hb => by rw [h2] at hb; cases hb
  | .din kvs, _, _, ⟨a, ws, h1, h2, h3, h4⟩, b, hb => by
    rw [h4] at hb
    rw [List.mem_singleton.mp hb]; exact ⟨_, h2, fun z => by rcases z with ⟨_, z⟩ | ⟨_, _, z⟩ <;> cases z⟩
theorem RpTs.there : ∀ (ts : List T) {vs : List V} {o : List Addr}, RpTs K G H ts vs o → ∀ a ∈ o, ∃ u, H a = some u ∧ ¬ Fix u
  | [], _, _, ⟨_, h⟩, b, hb => by rw [h] at hb; cases hb
  | t :: ts, _, _, ⟨v, r, o1, o2, h1, h2, h3, h4⟩, b, hb => by
    rw [h4] at hb
    rcases List.mem_append.mp hb with hb | hb
    · exact Rp.there t h2 b hb
    · exact RpTs.there ts h3 b hb
theorem RpTk.there : ∀ (ts : List (Key × T)) {vs : List (Key × V)} {o : List Addr}, RpTk K G H ts vs o → ∀ a ∈ o, ∃ u, H a = some u ∧ ¬ Fix u
  | [], _, _, ⟨_, h⟩, b, hb => by rw [h] at hb; cases hb
  | (_, t) :: ts, _, _, ⟨v, r, o1, o2, h1, h2, h3, h4⟩, b, hb => by
    rw [h4] at hb
    rcases List.mem_append.mp hb with hb | hb
    · exact Rp.there t h2 b hb
    · exact RpTk.there ts h3 b hb
theorem RpTt.there : ∀ (ts : List (List Key × T)) {vs : List (List Key × V)} {o : List Addr}, RpTt K G H ts vs o → ∀ a ∈ o, ∃ u, H a = some u ∧ ¬ Fix u
  | [], _, _, ⟨_, h⟩, b, hb => by rw [h] at hb; cases hb
  | (_, t) :: ts, _, _, ⟨v, r, o1, o2, h1, h2, h3, h4⟩, b, hb => by
    rw [h4] at hb
    rcases List.mem_append.mp hb with hb | hb
    · exact Rp.there t h2 b hb
    · exact RpTt.there ts h3 b hb
theorem RpTf.there : ∀ (ts : List (Str × T)) {vs : List (Str × V)} {o : List Addr}, RpTf K G H ts vs o → ∀ a ∈ o, ∃ u, H a = some u ∧ ¬ Fix u
  | [], _, _, ⟨_, h⟩, b, hb => by rw [h] at hb; cases hb
  | (_, t) :: ts, _, _, ⟨v, r, o1, o2, h1, h2, h3, h4⟩, b, hb => by
    rw [h4] at hb
    rcases List.mem_append.mp hb with hb | hb
    · exact Rp.there t h2 b hb
    · exact RpTf.there ts h3 b hb
end
theorem RpTs.len : ∀ {ts : List T} {vs : List V} {o : List Addr}, RpTs K G H ts vs o → vs.length = ts.length
  | [], _, _, ⟨h, _⟩ => by rw [h]; rfl
  | t :: ts, _, _, ⟨v, r, o1, o2, h1, h2, h3, h4⟩ => by rw [h1, List.length_cons, List.length_cons, RpTs.len h3]
theorem RpTs.append : ∀ {ts us : List T} {vs ws : List V} {o o' : List Addr}, RpTs K G H ts vs o → RpTs K G H us ws o' → RpTs K G H (ts ++ us) (vs ++ ws) (o ++ o')
  | [], _, _, _, _, _, ⟨h, h2⟩, h' => by rw [h, h2]; exact h'
  | t :: ts, _, _, _, _, _, ⟨v, r, o1, o2, h1, h2, h3, h4⟩, h' => by
    subst h1; subst h4
    exact ⟨v, r ++ _, o1, o2 ++ _, rfl, h2, RpTs.append h3 h', by simp⟩
theorem rpTs_p : ∀ {ds : List D} {vs : List V}, RpDs K G ds vs → RpTs K G H (ds.map T.p) vs []
  | [], _, h => ⟨h, rfl⟩
  | d :: ds, _, ⟨v, r, h1, h2, h3⟩ => ⟨v, r, [], [], h1, ⟨h2, rfl⟩, rpTs_p h3, rfl⟩
abbrev Env := List (Option T)
def RpE (K : KW) (G H : Hp) : Env → St → List Addr → Prop
  | [], σ, o => σ = [] ∧ o = []
  | none :: es, σ, o => ∃ x r, σ = x :: r ∧ RpE K G H es r o
  | some t :: es, σ, o => ∃ v r o1 o2, σ = some v :: r ∧ Rp K G H t v o1 ∧ RpE K G H es r o2 ∧ o = o1 ++ o2
theorem RpE.mono (e : Same G G') : ∀ (es : Env) {σ : St} {o : List Addr}, (∀ a ∈ o, H' a = H a) → RpE K G H es σ o → RpE K G' H' es σ o
  | [], _, _, _, h => h
  | none :: es, _, _, k, ⟨x, r, h1, h2⟩ => ⟨x, r, h1, RpE.mono e es k h2⟩
  | some t :: es, _, _, k, ⟨v, r, o1, o2, h1, h2, h3, h4⟩ => ⟨v, r, o1, o2, h1, Rp.mono e t (fun b hb => k b (by rw [h4]; simp [hb])) h2, RpE.mono e es (fun b hb => k b (by rw [h4]; simp [hb])) h3, h4⟩
theorem RpE.there : ∀ (es : Env) {σ : St} {o : List Addr}, RpE K G H es σ o → ∀ a ∈ o, ∃ u, H a = some u ∧ ¬ Fix u
  | [], _, _, ⟨_, h⟩, b, hb => by rw [h] at hb; cases hb
  | none :: es, _, _, ⟨x, r, h1, h2⟩, b, hb => RpE.there es h2 b hb
  | some t :: es, _, _, ⟨v, r, o1, o2, h1, h2, h3, h4⟩, b, hb => by
    rw [h4] at hb
    rcases List.mem_append.mp hb with hb | hb
    · exact Rp.there t h2 b hb
    · exact RpE.there es h3 b hb
theorem RpE.len : ∀ {es : Env} {σ : St} {o : List Addr}, RpE K G H es σ o → σ.length = es.length
  | [], _, _, ⟨h, _⟩ => by rw [h]; rfl
  | none :: es, _, _, ⟨x, r, h1, h2⟩ => by rw [h1, List.length_cons, List.length_cons, RpE.len h2]
  | some t :: es, _, _, ⟨v, r, o1, o2, h1, h2, h3, h4⟩ => by rw [h1, List.length_cons, List.length_cons, RpE.len h3]
theorem perm_mid {α : Type} (a b c : List α) : (a ++ (b ++ c)).Perm (b ++ (a ++ c)) := by
  rw [← List.append_assoc, ← List.append_assoc]
  exact List.Perm.append_right _ List.perm_append_comm
theorem RpE.take : ∀ {es : Env} {σ : St} {o : List Addr} {i : Nat} {t : T}, RpE K G H es σ o → es[i]? = some (some t) →
    ∃ v o1 o2, σ[i]? = some (some v) ∧ Rp K G H t v o1 ∧ RpE K G H (es.set i none) σ o2 ∧ o.Perm (o1 ++ o2)
  | [], _, _, _, _, _, e => by simp at e
  | none :: es, _, _, 0, _, _, e => by simp at e
  | none :: es, _, _, i + 1, t, ⟨x, r, h1, h2⟩, e => by
    subst h1
    obtain ⟨v, o1, o2, g1, g2, g3, g4⟩ := RpE.take (i := i) h2 (by simpa using e)
    exact ⟨v, o1, o2, by simpa using g1, g2, ⟨x, r, rfl, g3⟩, g4⟩
  | some u :: es, _, _, 0, t, ⟨v, r, o1, o2, h1, h2, h3, h4⟩, e => by
    subst h1
    simp at e; subst e
    exact ⟨v, o1, o2, rfl, h2, ⟨_, _, rfl, h3⟩, by rw [h4]⟩
  | some u :: es, _, _, i + 1, t, ⟨v, r, o1, o2, h1, h2, h3, h4⟩, e => by
    subst h1
    obtain ⟨w, p1, p2, g1, g2, g3, g4⟩ := RpE.take (i := i) h3 (by simpa using e)
    refine ⟨w, p1, o1 ++ p2, by simpa using g1, g2, ⟨v, r, o1, p2, rfl, h2, g3, rfl⟩, ?_⟩
    rw [h4]
    exact (List.Perm.append_left o1 g4).trans (perm_mid _ _ _)
theorem RpE.put : ∀ {es : Env} {σ : St} {o : List Addr} {i : Nat} {t : T} {v : V} {o1 : List Addr}, RpE K G H es σ o → i < es.length → (∀ u, es[i]? ≠ some (some u)) → Rp K G H t v o1 →
    ∃ o2, RpE K G H (es.set i (some t)) (σ.set i (some v)) o2 ∧ o2.Perm (o1 ++ o)
  | [], _, _, _, _, _, _, _, hl, _, _ => by simp at hl
  | none :: es, _, o, 0, t, v, o1, ⟨x, r, h1, h2⟩, _, _, h => by
    subst h1
    exact ⟨o1 ++ o, ⟨v, r, o1, o, rfl, h, h2, rfl⟩, .refl _⟩
  | none :: es, _, o, i + 1, t, v, o1, ⟨x, r, h1, h2⟩, hl, hn, h => by
    subst h1
    obtain ⟨o2, g1, g2⟩ := RpE.put (i := i) h2 (by simpa using hl) (fun u z => hn u (by simpa using z)) h
    exact ⟨o2, ⟨x, _, rfl, g1⟩, g2⟩
  | some u :: es, _, _, 0, t, v, o1, _, _, hn, _ => absurd rfl (hn u)
  | some u :: es, _, _, i + 1, t, v, o1, ⟨w, r, p1, p2, h1, h2, h3, h4⟩, hl, hn, h => by
    subst h1
    obtain ⟨o2, g1, g2⟩ := RpE.put (i := i) h3 (by simpa using hl) (fun u z => hn u (by simpa using z)) h
    refine ⟨p1 ++ o2, ⟨w, _, p1, o2, rfl, h2, g1, rfl⟩, ?_⟩
    rw [h4]
    exact (List.Perm.append_left p1 g2).trans (perm_mid _ _ _)
theorem RpE.drop {es : Env} {σ : St} {o : List Addr} (i : Nat) (h : RpE K G H es σ o) : ∃ o1 o2, RpE K G H (es.set i none) σ o2 ∧ o.Perm (o1 ++ o2) := by
  by_cases hi : ∃ t, es[i]? = some (some t)
  · obtain ⟨t, ht⟩ := hi
    obtain ⟨v, o1, o2, g1, g2, g3, g4⟩ := h.take ht
    exact ⟨o1, o2, g3, g4⟩
  · refine ⟨[], o, ?_, .refl _⟩
    by_cases hl : i < es.length
    · have e : es[i]? = some none := by
        cases q : es[i]? with
        | none => rw [List.getElem?_eq_none_iff] at q; omega
        | some x =>
          cases x with
          | none => rfl
          | some t => exact absurd ⟨t, q⟩ hi
      have : es.set i none = es := by
        obtain ⟨h1, e2⟩ := List.getElem?_eq_some_iff.mp e
        rw [← e2]
        exact List.set_getElem_self h1
      rw [this]; exact h
    · rw [List.set_eq_of_length_le (by omega)]; exact h
end
end DL
namespace DL
open PySem PySem.Spec PyProof.Rows L2
structure St0 (K : KW) (G0 H0 : Hp) (W : List (T × V)) (G H : Hp) (ts : List T) (vs : List V) (env : Env) (σ : St) (ot oe : List Addr) : Prop where
  tmp : RpTs K G H ts vs ot
  env : RpE K G H env σ oe
  nd : (ot ++ oe).Nodup
  fr : ∀ a ∈ ot ++ oe, G a = none ∧ H0 a = none
  g0 : Same G0 G
  gh : Same G H
  h0 : Same H0 H
  nw : ∀ a o, G a = some o → G0 a ≠ none ∨ H0 a = none ∨ Fix o
  vw : ∀ q ∈ W, ∃ o, Rp K G H q.1 q.2 o
def OkS (K : KW) (G0 H0 : Hp) (W : List (T × V)) (H : Hp) (ts : List T) (vs : List V) (env : Env) (σ : St) : Prop :=
  ∃ G ot oe, St0 K G0 H0 W G H ts vs env σ ot oe
section
variable {K : KW} {G0 H0 H : Hp} {W : List (T × V)} {ts : List T} {vs : List V} {env : Env} {σ : St} {t : T} {v : V}
theorem OkS.scal {z : D} {u : V} (S : OkS K G0 H0 W H ts vs env σ) (h : ∀ G, RpD K G z u) : OkS K G0 H0 W H (.p z :: ts) (u :: vs) env σ := by
  obtain ⟨G, ot, oe, s⟩ := S
  exact ⟨G, ot, oe, ⟨u, vs, [], ot, rfl, ⟨h G, rfl⟩, s.tmp, rfl⟩, s.env, s.nd, s.fr, s.g0, s.gh, s.h0, s.nw, s.vw⟩
theorem OkS.pop (S : OkS K G0 H0 W H (t :: ts) (v :: vs) env σ) : OkS K G0 H0 W H ts vs env σ := by
  obtain ⟨G, ot, oe, s⟩ := S
  obtain ⟨u, r, o1, o2, h1, h2, h3, h4⟩ := s.tmp
  cases h1
  subst h4
  have nd := s.nd
  rw [List.append_assoc] at nd
  exact ⟨G, o2, oe, h3, s.env, (List.nodup_append.mp nd).2.1, fun a ha => s.fr a (by rw [List.append_assoc]; exact List.mem_append_right _ ha), s.g0, s.gh, s.h0, s.nw, s.vw⟩
theorem OkS.unview {q : T × V} (S : OkS K G0 H0 (q :: W) H ts vs env σ) : OkS K G0 H0 W H ts vs env σ := by
  obtain ⟨G, ot, oe, s⟩ := S
  exact ⟨G, ot, oe, s.tmp, s.env, s.nd, s.fr, s.g0, s.gh, s.h0, s.nw, fun q hq => s.vw q (List.mem_cons_of_mem _ hq)⟩
theorem OkS.toview (S : OkS K G0 H0 W H (t :: ts) (v :: vs) env σ) : OkS K G0 H0 ((t, v) :: W) H ts vs env σ := by
  have S' := S.pop
  obtain ⟨G, ot, oe, s⟩ := S
  obtain ⟨u, r, o1, o2, h1, h2, h3, h4⟩ := s.tmp
  cases h1
  subst h4
  have nd := s.nd
  rw [List.append_assoc] at nd
  exact ⟨G, o2, oe, h3, s.env, (List.nodup_append.mp nd).2.1, fun a ha => s.fr a (by rw [List.append_assoc]; exact List.mem_append_right _ ha), s.g0, s.gh, s.h0, s.nw, fun q hq => by
    rcases List.mem_cons.mp hq with e | hq
    · subst e; exact ⟨o1, h2⟩
    · exact s.vw q hq⟩
theorem OkS.ofview {d : D} (S : OkS K G0 H0 ((.p d, v) :: W) H ts vs env σ) : OkS K G0 H0 W H (.p d :: ts) (v :: vs) env σ := by
  obtain ⟨G, ot, oe, s⟩ := S
  obtain ⟨o, h, ho⟩ := s.vw (.p d, v) (by simp)
  exact ⟨G, ot, oe, ⟨v, vs, [], ot, rfl, ⟨h, rfl⟩, s.tmp, rfl⟩, s.env, s.nd, s.fr, s.g0, s.gh, s.h0, s.nw, fun q hq => s.vw q (List.mem_cons_of_mem _ hq)⟩
theorem OkS.see (S : OkS K G0 H0 W H ts vs env σ) {q : T × V} (hq : q ∈ W) : RpD K H q.1.toD q.2 := by
  obtain ⟨G, ot, oe, s⟩ := S
  obtain ⟨o, h⟩ := s.vw q hq
  exact h.flat s.gh (fun a _ => rfl) _
theorem OkS.top (S : OkS K G0 H0 W H (t :: ts) (v :: vs) env σ) : RpD K H t.toD v := S.toview.see (by simp : (t, v) ∈ _)
theorem OkS.get {i : Nat} (S : OkS K G0 H0 W H ts vs env σ) (e : env[i]? = some (some t)) : ∃ v, σ[i]? = some (some v) ∧ OkS K G0 H0 W H (t :: ts) (v :: vs) (env.set i none) σ := by
  obtain ⟨G, ot, oe, s⟩ := S
  obtain ⟨v, o1, o2, h1, h2, h3, h4⟩ := s.env.take e
  have pm : (ot ++ oe).Perm ((o1 ++ ot) ++ o2) := by
    rw [List.append_assoc]
    exact (List.Perm.append_left ot h4).trans (perm_mid _ _ _)
  exact ⟨v, h1, G, o1 ++ ot, o2, ⟨v, vs, o1, ot, rfl, h2, s.tmp, rfl⟩, h3, pm.nodup_iff.mp s.nd, fun a ha => s.fr a (pm.mem_iff.mpr ha), s.g0, s.gh, s.h0, s.nw, s.vw⟩
theorem OkS.look {i : Nat} (S : OkS K G0 H0 W H ts vs env σ) (e : env[i]? = some (some t)) : ∃ v, σ[i]? = some (some v) ∧ OkS K G0 H0 ((t, v) :: W) H ts vs env σ := by
  obtain ⟨G, ot, oe, s⟩ := S
  obtain ⟨v, o1, o2, h1, h2, h3, h4⟩ := s.env.take e
  exact ⟨v, h1, G, ot, oe, s.tmp, s.env, s.nd, s.fr, s.g0, s.gh, s.h0, s.nw, fun q hq => by
    rcases List.mem_cons.mp hq with e | hq
    · subst e; exact ⟨o1, h2⟩
    · exact s.vw q hq⟩
theorem OkS.put {i : Nat} (S : OkS K G0 H0 W H (t :: ts) (v :: vs) env σ) (hl : i < env.length) : OkS K G0 H0 W H ts vs (env.set i (some t)) (σ.set i (some v)) := by
  obtain ⟨G, ot, oe, s⟩ := S
  obtain ⟨u, r, o1, o2, h1, h2, h3, h4⟩ := s.tmp
  cases h1
  subst h4
  obtain ⟨p1, p2, g1, g2⟩ := s.env.drop i
  have hn : ∀ u, (env.set i none)[i]? ≠ some (some u) := fun u z => by
    rw [List.getElem?_set_self hl] at z; cases z
  obtain ⟨p3, g3, g4⟩ := g1.put (i := i) (t := t) (v := v) (by simpa using hl) hn h2
  have g5 : (env.set i none).set i (some t) = env.set i (some t) := by simp
  rw [g5] at g3
  have pm : (o1 ++ o2 ++ oe).Perm (p1 ++ (o2 ++ p3)) := by
    have e1 : (o1 ++ o2 ++ oe).Perm (o1 ++ o2 ++ (p1 ++ p2)) := List.Perm.append_left _ g2
    have e2 : (p1 ++ (o2 ++ p3)).Perm (p1 ++ (o2 ++ (o1 ++ p2))) := List.Perm.append_left _ (List.Perm.append_left _ g4)
    refine e1.trans (List.Perm.trans ?_ e2.symm)
    have e3 : (o1 ++ o2 ++ (p1 ++ p2)).Perm (p1 ++ ((o1 ++ o2) ++ p2)) := perm_mid _ _ _
    refine e3.trans (List.Perm.append_left _ ?_)
    rw [List.append_assoc]
    exact perm_mid _ _ _
  have nd2 := pm.nodup_iff.mp s.nd
  exact ⟨G, o2, p3, h3, g3, (List.nodup_append.mp nd2).2.1, fun a ha => s.fr a (pm.mem_iff.mpr (List.mem_append_right _ ha)), s.g0, s.gh, s.h0, s.nw, s.vw⟩
theorem OkS.frz (S : OkS K G0 H0 W H (t :: ts) (v :: vs) env σ) : OkS K G0 H0 W H (.p t.toD :: ts) (v :: vs) env σ := by
  obtain ⟨G, ot, oe, s⟩ := S
  obtain ⟨u, r, o1, o2, h1, h2, h3, h4⟩ := s.tmp
  cases h1
  subst h4
  have nd := s.nd
  rw [List.append_assoc] at nd
  have gn : ∀ a ∈ o1, G a = none := fun a ha => (s.fr a (List.mem_append_left _ (List.mem_append_left _ ha))).1
  have sm : Same G (fun a => if a ∈ o1 then H a else G a) := fun b u e => by
    show (if b ∈ o1 then H b else G b) = _
    by_cases hb : b ∈ o1
    · rw [gn b hb] at e; cases e
    · rw [if_neg hb]; exact e
  refine ⟨fun a => if a ∈ o1 then H a else G a, o2, oe, ⟨v, vs, [], o2, rfl, ⟨h2.flat sm (fun a ha => if_pos ha) _, rfl⟩, h3.mono sm _ (fun _ _ => rfl), rfl⟩, s.env.mono sm _ (fun _ _ => rfl), (List.nodup_append.mp nd).2.1, fun a ha => ?_, ?_, fun b u e => ?_, s.h0, fun b u e => ?_, fun q hq => ?_⟩
  · have hx := s.fr a (by rw [List.append_assoc]; exact List.mem_append_right _ ha)
    refine ⟨?_, hx.2⟩
    show (if a ∈ o1 then H a else G a) = none
    have : a ∉ o1 := fun z => (List.nodup_append.mp nd).2.2 a z a ha rfl
    rw [if_neg this]; exact hx.1
  · intro b u e; exact sm b u (s.g0 b u e)
  · have e' : (if b ∈ o1 then H b else G b) = some u := e
    by_cases hb : b ∈ o1
    · rw [if_pos hb] at e'; exact e'
    · rw [if_neg hb] at e'; exact s.gh b u e'
  · have e' : (if b ∈ o1 then H b else G b) = some u := e
    by_cases hb : b ∈ o1
    · exact .inr (.inl (s.fr b (List.mem_append_left _ (List.mem_append_left _ hb))).2)
    · rw [if_neg hb] at e'; exact s.nw b u e'
  · obtain ⟨o, h⟩ := s.vw q hq
    exact ⟨o, h.mono sm _ fun _ _ => rfl⟩
theorem RpTs.mid {G : Hp} : ∀ {us : List T} {ws : List V} {x : T} {y : V} {o : List Addr}, ws.length = us.length → RpTs K G H (us ++ x :: ts) (ws ++ y :: vs) o → ∃ o', RpTs K G H (x :: (us ++ ts)) (y :: (ws ++ vs)) o' ∧ o.Perm o'
  | [], ws, x, y, o, hl, h => by
    cases ws with
    | nil => exact ⟨o, h, .refl _⟩
    | cons _ _ => simp at hl
  | u :: us, ws, x, y, o, hl, h => by
    cases ws with
    | nil => simp at hl
    | cons w ws =>
      obtain ⟨v, r, o1, o2, h1, h2, h3, h4⟩ := h
      cases h1
      obtain ⟨o', ⟨v', r', p1, p2, g1, g2, g3, g4⟩, pm⟩ := RpTs.mid (us := us) (ws := ws) (by simpa using hl) h3
      cases g1
      refine ⟨p1 ++ (o1 ++ p2), ⟨y, _, p1, o1 ++ p2, rfl, g2, ⟨w, _, o1, p2, rfl, h2, g3, rfl⟩, rfl⟩, ?_⟩
      rw [h4]
      refine (List.Perm.append_left o1 pm).trans ?_
      rw [g4]
      exact perm_mid _ _ _
theorem OkS.mid {us : List T} {ws : List V} {x : T} {y : V} (hl : ws.length = us.length) (S : OkS K G0 H0 W H (us ++ x :: ts) (ws ++ y :: vs) env σ) : OkS K G0 H0 W H (x :: us ++ ts) (y :: ws ++ vs) env σ := by
  obtain ⟨G, ot, oe, s⟩ := S
  obtain ⟨o', h, pm⟩ := s.tmp.mid hl
  have pm2 : (ot ++ oe).Perm (o' ++ oe) := List.Perm.append_right _ pm
  exact ⟨G, o', oe, h, s.env, pm2.nodup_iff.mp s.nd, fun a ha => s.fr a (pm2.mem_iff.mpr ha), s.g0, s.gh, s.h0, s.nw, s.vw⟩
theorem RpTs.split {G : Hp} : ∀ {us : List T} {ws : List V} {o : List Addr}, ws.length = us.length → RpTs K G H (us ++ ts) (ws ++ vs) o → ∃ o1 o2, RpTs K G H us ws o1 ∧ RpTs K G H ts vs o2 ∧ o = o1 ++ o2
  | [], ws, o, hl, h => by
    cases ws with
    | nil => exact ⟨[], o, ⟨rfl, rfl⟩, h, rfl⟩
    | cons _ _ => simp at hl
  | u :: us, ws, o, hl, h => by
    cases ws with
    | nil => simp at hl
    | cons w ws =>
      obtain ⟨v, r, o1, o2, h1, h2, h3, h4⟩ := h
      cases h1
      obtain ⟨p1, p2, g1, g2, g3⟩ := RpTs.split (us := us) (ws := ws) (by simpa using hl) h3
      exact ⟨o1 ++ p1, p2, ⟨w, ws, o1, p1, rfl, h2, g1, rfl⟩, g2, by rw [h4, g3, List.append_assoc]⟩
theorem same_upd {H : Hp} {p : Addr} {o : HO} (h : H p = none) : Same H (upd H p o) := fun b x e => by
  rw [upd_ne (ne_of_none e h)]
  exact e
theorem Same.none {H H' : Hp} {p : Addr} (s : Same H H') (h : H' p = none) : H p = none := by
  cases q : H p with
  | none => rfl
  | some u => rw [s p u q] at h; cases h
theorem OkS.newL {us : List T} {ws : List V} {p : Addr} (hl : ws.length = us.length) (S : OkS K G0 H0 W H (us ++ ts) (ws ++ vs) env σ) (hp : H p = none) : OkS K G0 H0 W (upd H p (.lst ws)) (.lst us :: ts) (.ref p :: vs) env σ := by
  obtain ⟨G, ot, oe, s⟩ := S
  obtain ⟨o1, o2, h1, h2, h3⟩ := s.tmp.split hl
  have gp : G p = none := Same.none s.gh hp
  have ne : ∀ a u, H a = some u → a ≠ p := fun a u e z => by rw [z, hp] at e; cases e
  have k1 : ∀ a ∈ o1, upd H p (.lst ws) a = H a := fun a ha => by
    obtain ⟨u, e, _⟩ := h1.there _ a ha
    exact upd_ne (ne a u e)
  have k2 : ∀ a ∈ o2, upd H p (.lst ws) a = H a := fun a ha => by
    obtain ⟨u, e, _⟩ := h2.there _ a ha
    exact upd_ne (ne a u e)
  have k3 : ∀ a ∈ oe, upd H p (.lst ws) a = H a := fun a ha => by
    obtain ⟨u, e, _⟩ := s.env.there _ a ha
    exact upd_ne (ne a u e)
  have all : ∀ a ∈ ot ++ oe, ∃ u, H a = some u := fun a ha => by
    rcases List.mem_append.mp ha with ha | ha
    · obtain ⟨u, e, _⟩ := s.tmp.there _ a ha; exact ⟨u, e⟩
    · obtain ⟨u, e, _⟩ := s.env.there _ a ha; exact ⟨u, e⟩
  refine ⟨G, p :: o1 ++ o2, oe, ⟨.ref p, vs, p :: o1, o2, rfl, ⟨p, ws, o1, rfl, upd_same, h1.mono (Same.refl _) _ k1, rfl⟩, h2.mono (Same.refl _) _ k2, rfl⟩, s.env.mono (Same.refl _) _ k3, ?_, fun a ha => ?_, s.g0, fun b u e => ?_, fun b u e => ?_, s.nw, fun q hq => ?_⟩
  · rw [List.cons_append, List.cons_append, ← h3]
    refine List.nodup_cons.mpr ⟨fun z => ?_, s.nd⟩
    obtain ⟨u, e⟩ := all p z
    rw [hp] at e; cases e
  · rw [List.cons_append, List.cons_append, ← h3] at ha
    rcases List.mem_cons.mp ha with e | ha
    · subst e; exact ⟨gp, Same.none s.h0 hp⟩
    · exact s.fr a ha
  · rw [upd_ne (ne b u (s.gh b u e))]; exact s.gh b u e
  · rw [upd_ne (ne b u (s.h0 b u e))]; exact s.h0 b u e
  · obtain ⟨o, h⟩ := s.vw q hq
    refine ⟨o, h.mono (Same.refl _) _ fun a ha => ?_⟩
    obtain ⟨u, e, _⟩ := h.there _ a ha
    exact upd_ne (ne a u e)
def allP : List T → Option (List D)
  | [] => some []
  | .p d :: r => (allP r).map (d :: ·)
  | _ :: _ => none
theorem allP_eq : ∀ {us : List T} {ds : List D}, allP us = some ds → us = ds.map T.p
  | [], ds, h => by cases h; rfl
  | .p d :: r, ds, h => by
    unfold allP at h
    cases q : allP r with
    | none => rw [q] at h; cases h
    | some es =>
      rw [q] at h
      cases h
      rw [allP_eq q]; rfl
  | .lst _ :: r, ds, h => by simp [allP] at h
  | .tup _ :: r, ds, h => by simp [allP] at h
  | .dic _ :: r, ds, h => by simp [allP] at h
  | .dit _ :: r, ds, h => by simp [allP] at h
  | .obj _ _ :: r, ds, h => by simp [allP] at h
  | .box _ _ :: r, ds, h => by simp [allP] at h
  | .al _ :: r, ds, h => by simp [allP] at h
  | .din _ :: r, ds, h => by simp [allP] at h
def mkTup (us : List T) : T := match allP us with | some ds => .p (.tup ds) | none => .tup us
theorem rpDs_of {G : Hp} : ∀ {ds : List D} {vs : List V} {o : List Addr}, RpTs K G H (ds.map T.p) vs o → RpDs K G ds vs ∧ o = []
  | [], _, _, ⟨h, h2⟩ => ⟨h, h2⟩
  | d :: ds, _, _, ⟨v, r, o1, o2, h1, h2, h3, h4⟩ => by
    obtain ⟨g1, g2⟩ := rpDs_of h3
    exact ⟨⟨v, r, h1, h2.1, g1⟩, by rw [h4, h2.2, g2]; rfl⟩
theorem OkS.newT {us : List T} {ws : List V} {p : Addr} (hl : ws.length = us.length) (S : OkS K G0 H0 W H (us ++ ts) (ws ++ vs) env σ) (hp : H p = none) : OkS K G0 H0 W (upd H p (.tup ws)) (mkTup us :: ts) (.ref p :: vs) env σ := by
  obtain ⟨G, ot, oe, s⟩ := S
  obtain ⟨o1, o2, h1, h2, h3⟩ := s.tmp.split hl
  have gp : G p = none := Same.none s.gh hp
  have ne : ∀ a u, H a = some u → a ≠ p := fun a u e z => by rw [z, hp] at e; cases e
  have all : ∀ a ∈ ot ++ oe, ∃ u, H a = some u := fun a ha => by
    rcases List.mem_append.mp ha with ha | ha
    · obtain ⟨u, e, _⟩ := s.tmp.there _ a ha; exact ⟨u, e⟩
    · obtain ⟨u, e, _⟩ := s.env.there _ a ha; exact ⟨u, e⟩
  have sg : Same G (upd G p (.tup ws)) := same_upd gp
  have k0 : ∀ a ∈ ot ++ oe, upd H p (.tup ws) a = H a := fun a ha => by
    obtain ⟨u, e⟩ := all a ha
    exact upd_ne (ne a u e)
  subst h3
  have k1 : ∀ a ∈ o1, upd H p (.tup ws) a = H a := fun a ha => k0 a (by simp [ha])
  have k2 : ∀ a ∈ o2, upd H p (.tup ws) a = H a := fun a ha => k0 a (by simp [ha])
  have k3 : ∀ a ∈ oe, upd H p (.tup ws) a = H a := fun a ha => k0 a (by simp [ha])
  have tp : Rp K (upd G p (.tup ws)) (upd H p (.tup ws)) (mkTup us) (.ref p) o1 := by
    unfold mkTup
    cases q : allP us with
    | none => exact ⟨p, ws, rfl, upd_same, h1.mono sg _ k1⟩
    | some ds =>
      have e := allP_eq q
      subst e
      obtain ⟨g1, g2⟩ := rpDs_of h1
      exact ⟨⟨p, ws, rfl, upd_same, RpDs.mono sg _ g1⟩, g2⟩
  refine ⟨upd G p (.tup ws), o1 ++ o2, oe, ⟨.ref p, vs, o1, o2, rfl, tp, h2.mono sg _ k2, rfl⟩, s.env.mono sg _ k3, s.nd, fun a ha => ?_, fun b u e => sg b u (s.g0 b u e), fun b u e => ?_, fun b u e => ?_, fun b u e => ?_, fun q hq => ?_⟩
  · obtain ⟨u, e⟩ := all a ha
    rw [upd_ne (ne a u e)]
    exact s.fr a ha
  · by_cases hb : b = p
    · subst hb; rw [upd_same] at e ⊢; exact e
    · rw [upd_ne hb] at e ⊢; exact s.gh b u e
  · rw [upd_ne (ne b u (s.h0 b u e))]; exact s.h0 b u e
  · by_cases hb : b = p
    · exact .inr (.inl (by rw [hb]; exact Same.none s.h0 hp))
    · rw [upd_ne hb] at e; exact s.nw b u e
  · obtain ⟨o, h⟩ := s.vw q hq
    refine ⟨o, h.mono sg _ fun a ha => ?_⟩
    obtain ⟨u, e, _⟩ := h.there _ a ha
    exact upd_ne (ne a u e)
end
end DL
namespace DL
open PySem PySem.Spec PyProof.Rows L2
abbrev EF := Env → Option (T × Env)
abbrev AF := Env → Option (List T × Env)
abbrev CF := Env → Option (Bool × Env)
def EvT (K : KW) (te : TE) (f : EF) : Prop := ∀ (G0 H0 : Hp) (W : List (T × V)) (H : Hp) (ts : List T) (vs : List V) (env : Env) (σ : St) (t : T) (env' : Env), OkS K G0 H0 W H ts vs env σ → f env = some (t, env') →
  ∀ Q : VK, (∀ v H', Same H H' → OkS K G0 H0 W H' (t :: ts) (v :: vs) env' σ → Q v H') → te σ H Q
def EvV (K : KW) (te : TE) (f : EF) : Prop := ∀ (G0 H0 : Hp) (W : List (T × V)) (H : Hp) (ts : List T) (vs : List V) (env : Env) (σ : St) (t : T) (env' : Env), OkS K G0 H0 W H ts vs env σ → f env = some (t, env') →
  ∀ Q : VK, (∀ v H', Same H H' → OkS K G0 H0 ((t, v) :: W) H' ts vs env' σ → Q v H') → te σ H Q
def EvA (K : KW) (ta : TA) (f : AF) : Prop := ∀ (G0 H0 : Hp) (W : List (T × V)) (H : Hp) (ts : List T) (vs : List V) (env : Env) (σ : St) (us : List T) (env' : Env), OkS K G0 H0 W H ts vs env σ → f env = some (us, env') →
  ∀ Q : List V → Hp → Prop, (∀ ws H', Same H H' → ws.length = us.length → OkS K G0 H0 W H' (us ++ ts) (ws ++ vs) env' σ → Q ws H') → ta σ H Q
def EvC (K : KW) (tc : TT) (f : CF) : Prop := ∀ (G0 H0 : Hp) (W : List (T × V)) (H : Hp) (ts : List T) (vs : List V) (env : Env) (σ : St) (c : Bool) (env' : Env), OkS K G0 H0 W H ts vs env σ → f env = some (c, env') →
  ∀ Q : Bool → Hp → Prop, (∀ H', Same H H' → OkS K G0 H0 W H' ts vs env' σ → Q c H') → tc σ H Q
structure DT (X : Cx) (e : Expr) (te : TE) (f : EF) : Prop where
  pe : PE X e te
  ok : EvT X.kw te f
structure DV (X : Cx) (e : Expr) (te : TE) (f : EF) : Prop where
  pe : PE X e te
  ok : EvV X.kw te f
structure DA (X : Cx) (es : List Expr) (ta : TA) (f : AF) : Prop where
  pa : PA X es ta
  ok : EvA X.kw ta f
structure DC (X : Cx) (e : Expr) (tc : TT) (f : CF) : Prop where
  pt : PT X e tc
  ok : EvC X.kw tc f
section
variable {K : KW} {G0 H0 H : Hp} {W : List (T × V)} {ts : List T} {vs : List V} {env : Env} {σ : St} {t : T} {v : V}
theorem OkS.dup {d : D} (S : OkS K G0 H0 W H (.p d :: ts) (v :: vs) env σ) : OkS K G0 H0 W H (.p d :: .p d :: ts) (v :: v :: vs) env σ := by
  obtain ⟨G, ot, oe, s⟩ := S
  obtain ⟨u, r, o1, o2, h1, h2, h3, h4⟩ := id s.tmp
  cases h1
  refine ⟨G, ot, oe, ⟨v, _, [], ot, rfl, ⟨h2.1, rfl⟩, s.tmp, rfl⟩, s.env, s.nd, s.fr, s.g0, s.gh, s.h0, s.nw, s.vw⟩
theorem OkS.len (S : OkS K G0 H0 W H ts vs env σ) : σ.length = env.length := by
  obtain ⟨G, ot, oe, s⟩ := S
  exact s.env.len
end
theorem obind {α β : Type} {x : Option α} {f : α → Option β} {y : β} (h : x.bind f = some y) : ∃ a, x = some a ∧ f a = some y := by
  cases x with
  | none => cases h
  | some a => exact ⟨a, rfl, h⟩
theorem omap {α β : Type} {x : Option α} {f : α → β} {y : β} (h : x.map f = some y) : ∃ a, x = some a ∧ f a = y := by
  cases x with
  | none => cases h
  | some a => exact ⟨a, rfl, Option.some.inj h⟩
theorem set_back {α : Type} {l : List α} {i : Nat} {x : α} (h : l[i]? = some x) : l.set i x = l := by
  obtain ⟨h1, e⟩ := List.getElem?_eq_some_iff.mp h
  rw [← e]; exact List.set_getElem_self h1
def eC (d : D) : EF := fun env => some (.p d, env)
def eV (i : Nat) : EF := fun env => match env[i]? with
  | some (some (.p d)) => some (.p d, env)
  | some (some t) => some (.p t.toD, env.set i (some (.p t.toD)))
  | _ => none
def eM (i : Nat) : EF := fun env => match env[i]? with
  | some (some t) => some (t, env.set i none)
  | _ => none
def eB (i : Nat) : EF := fun env => match env[i]? with
  | some (some t) => some (t, env)
  | _ => none
theorem ev_c {K : KW} {d : D} {v : V} (h : ∀ G, RpD K G d v) : EvT K (tC v) (eC d) := by
  intro G0 H0 W H ts vs env σ t env' S e Q q
  cases e
  exact q v H (Same.refl _) (S.scal h)
theorem ev_v {K : KW} {i : Nat} : EvT K (tVar i) (eV i) := by
  intro G0 H0 W H ts vs env σ t env' S e Q q
  unfold eV at e
  cases h : env[i]? with
  | none => rw [h] at e; cases e
  | some x =>
    rw [h] at e
    cases x with
    | none => cases e
    | some u =>
      have own : (∀ d, u ≠ .p d) → some (T.p u.toD, env.set i (some (.p u.toD))) = some (t, env') → tVar i σ H Q := fun _ e => by
        cases e
        obtain ⟨v, hv, S1⟩ := S.get h
        have hl : i < env.length := (List.getElem?_eq_some_iff.mp h).1
        have S2 := S1.frz.dup.put (i := i) (by simpa using hl)
        rw [List.set_set, set_back hv] at S2
        exact ⟨v, hv, q v H (Same.refl _) S2⟩
      cases u with
      | p d =>
        cases e
        obtain ⟨v, hv, S1⟩ := S.look h
        exact ⟨v, hv, q v H (Same.refl _) S1.ofview⟩
      | lst us => exact own (fun d z => by cases z) e
      | tup us => exact own (fun d z => by cases z) e
      | dic us => exact own (fun d z => by cases z) e
      | dit us => exact own (fun d z => by cases z) e
      | obj n us => exact own (fun d z => by cases z) e
      | box a us => exact own (fun d z => by cases z) e
      | al a => exact own (fun d z => by cases z) e
      | din a => exact own (fun d z => by cases z) e
theorem ev_m {K : KW} {i : Nat} : EvT K (tVar i) (eM i) := by
  intro G0 H0 W H ts vs env σ t env' S e Q q
  unfold eM at e
  cases h : env[i]? with
  | none => rw [h] at e; cases e
  | some x =>
    rw [h] at e
    cases x with
    | none => cases e
    | some u =>
      cases e
      obtain ⟨v, hv, S1⟩ := S.get h
      exact ⟨v, hv, q v H (Same.refl _) S1⟩
theorem ev_b {K : KW} {i : Nat} : EvV K (tVar i) (eB i) := by
  intro G0 H0 W H ts vs env σ t env' S e Q q
  unfold eB at e
  cases h : env[i]? with
  | none => rw [h] at e; cases e
  | some x =>
    rw [h] at e
    cases x with
    | none => cases e
    | some u =>
      cases e
      obtain ⟨v, hv, S1⟩ := S.look h
      exact ⟨v, hv, q v H (Same.refl _) S1⟩
theorem EvT.view {K : KW} {te : TE} {f : EF} (h : EvT K te f) : EvV K te f := by
  intro G0 H0 W H ts vs env σ t env' S e Q q
  exact h _ _ _ _ _ _ _ _ _ _ S e Q fun v H' s S' => q v H' s S'.toview
def eW (f : EF) : EF := fun env => (f env).bind fun r => match r.1 with | .p d => some (.p d, r.2) | _ => none
theorem EvV.val {K : KW} {te : TE} {f : EF} (h : EvV K te f) : EvT K te (eW f) := by
  intro G0 H0 W H ts vs env σ t env' S e Q q
  obtain ⟨⟨u, e1⟩, h1, h2⟩ := obind e
  cases u with
  | p d => cases h2; exact h _ _ _ _ _ _ _ _ _ _ S h1 Q fun v H' s S' => q v H' s S'.ofview
  | lst _ => cases h2
  | tup _ => cases h2
  | dic _ => cases h2
  | dit _ => cases h2
  | obj _ _ => cases h2
  | box _ _ => cases h2
  | al _ => cases h2
  | din _ => cases h2
section
variable {X : Cx} {e a b : Expr} {es : List Expr} {te ta tb : TE} {tr : TA} {f fa fb : EF} {fr : AF} {pos : Pos}
theorem dt_int {i j} : DT X (.Constant (.int i) j pos) (tC (.int i)) (eC (.int i)) := ⟨pe_int, ev_c fun _ => rfl⟩
theorem dt_bl {b j} : DT X (.Constant (.bool b) j pos) (tC (.bl b)) (eC (.bl b)) := ⟨pe_bl, ev_c fun _ => rfl⟩
theorem dt_non {j} : DT X (.Constant .none j pos) (tC .non) (eC .non) := ⟨pe_non, ev_c fun _ => rfl⟩
theorem dt_str {x j} : DT X (.Constant (.str x) j pos) (tC (.str x)) (eC (.str x)) := ⟨pe_str, ev_c fun _ => rfl⟩
theorem dt_v (i : Nat) {x : Str} (hN : X.N[i]? = some x := by rfl) (hv : Vis X.env.scope x := by first | exact Or.inl rfl | exact Or.inr (Or.inl rfl) | exact Or.inr (Or.inr rfl)) (hd : (x == ("__debug__" : Str)) = false := by decide)
    (hcd : (x == ("__classdict__" : Str)) = false := by decide) : DT X (.Name x pos) (tVar i) (eV i) := ⟨pe_var hN hv hd hcd, ev_v⟩
theorem dt_m (i : Nat) {x : Str} (hN : X.N[i]? = some x := by rfl) (hv : Vis X.env.scope x := by first | exact Or.inl rfl | exact Or.inr (Or.inl rfl) | exact Or.inr (Or.inr rfl)) (hd : (x == ("__debug__" : Str)) = false := by decide)
    (hcd : (x == ("__classdict__" : Str)) = false := by decide) : DT X (.Name x pos) (tVar i) (eM i) := ⟨pe_var hN hv hd hcd, ev_m⟩
theorem dv_v (i : Nat) {x : Str} (hN : X.N[i]? = some x := by rfl) (hv : Vis X.env.scope x := by first | exact Or.inl rfl | exact Or.inr (Or.inl rfl) | exact Or.inr (Or.inr rfl)) (hd : (x == ("__debug__" : Str)) = false := by decide)
    (hcd : (x == ("__classdict__" : Str)) = false := by decide) : DV X (.Name x pos) (tVar i) (eB i) := ⟨pe_var hN hv hd hcd, ev_b⟩
theorem DT.dv (h : DT X e te f) : DV X e te f := ⟨h.pe, h.ok.view⟩
theorem DV.dt (h : DV X e te f) : DT X e te (eW f) := ⟨h.pe, h.ok.val⟩
def aN : AF := fun env => some ([], env)
def aC (f : EF) (r : AF) : AF := fun env => (f env).bind fun x => (r x.2).map fun y => (x.1 :: y.1, y.2)
theorem da_nil : DA X [] tNil aN := by
  refine ⟨pa_nil, ?_⟩
  intro G0 H0 W H ts vs env σ us env' S e Q q
  cases e
  exact q [] H (Same.refl _) rfl S
theorem da_cons (h : DT X e te f) (hr : DA X es tr fr) (hs : starEach (e :: es) X.env = (false, eval e X.env) :: starEach es X.env := by rfl) : DA X (e :: es) (tCons te tr) (aC f fr) := by
  refine ⟨pa_cons h.pe hr.pa hs, ?_⟩
  intro G0 H0 W H ts vs env σ us env' S g Q q
  obtain ⟨⟨x, e1⟩, h1, h2⟩ := obind g
  obtain ⟨⟨y, e2⟩, h3, h4⟩ := omap h2
  cases h4
  refine h.ok _ _ _ _ _ _ _ _ _ _ S h1 _ fun v H1 s1 S1 => ?_
  refine hr.ok _ _ _ _ _ _ _ _ _ _ S1 h3 _ fun ws H2 s2 hl S2 => ?_
  exact q (v :: ws) H2 (s1.trans s2) (by simp [hl]) (S2.mid hl)
def eL (r : AF) : EF := fun env => (r env).bind fun x => if x.1.length ≤ 1000 then some (.lst x.1, x.2) else none
def eT (r : AF) : EF := fun env => (r env).bind fun x => if x.1.length ≤ 1000 then some (mkTup x.1, x.2) else none
theorem le1000 {n : Nat} (h : n ≤ 1000) : n ≤ sizeLine := by rw [sizeLine_eq]; omega
theorem dt_lst (h : DA X es tr fr) : DT X (.List es pos) (tLst tr) (eL fr) := by
  refine ⟨pe_lst h.pa, ?_⟩
  intro G0 H0 W H ts vs env σ t env' S g Q q
  obtain ⟨⟨x, e1⟩, h1, h2⟩ := obind g
  by_cases hl : x.length ≤ 1000
  · rw [if_pos hl] at h2
    cases h2
    refine h.ok _ _ _ _ _ _ _ _ _ _ S h1 _ fun ws H1 s1 hw S1 => ⟨by rw [hw]; exact le1000 hl, fun p hp => ?_⟩
    exact q _ _ (s1.trans (same_upd hp)) (S1.newL hw hp)
  · rw [if_neg hl] at h2; cases h2
theorem dt_tup {k} (h : DA X es tr fr) : DT X (.Tuple es k pos) (tTup tr) (eT fr) := by
  refine ⟨pe_tup h.pa, ?_⟩
  intro G0 H0 W H ts vs env σ t env' S g Q q
  obtain ⟨⟨x, e1⟩, h1, h2⟩ := obind g
  by_cases hl : x.length ≤ 1000
  · rw [if_pos hl] at h2
    cases h2
    refine h.ok _ _ _ _ _ _ _ _ _ _ S h1 _ fun ws H1 s1 hw S1 => ⟨by rw [hw]; exact le1000 hl, fun p hp => ?_⟩
    exact q _ _ (s1.trans (same_upd hp)) (S1.newT hw hp)
  · rw [if_neg hl] at h2; cases h2
def eOp (g : D → D → Option D) (fa fb : EF) : EF := fun env => (fa env).bind fun x => (fb x.2).bind fun y => match x.1, y.1 with
  | .p a, .p b => (g a b).map fun d => (.p d, y.2)
  | _, _ => none
theorem eOp_some {g : D → D → Option D} {t : T} {env env' : Env} (h : eOp g fa fb env = some (t, env')) : ∃ a e1 b d, fa env = some (.p a, e1) ∧ fb e1 = some (.p b, env') ∧ g a b = some d ∧ t = .p d := by
  obtain ⟨⟨x, e1⟩, h1, h2⟩ := obind h
  obtain ⟨⟨y, e2⟩, h3, h4⟩ := obind h2
  cases x with
  | p a =>
    cases y with
    | p b =>
      obtain ⟨d, h5, h6⟩ := omap h4
      cases h6
      exact ⟨a, e1, b, d, h1, h3, h5, rfl⟩
    | lst _ => cases h4
    | tup _ => cases h4
    | dic _ => cases h4
    | dit _ => cases h4
    | obj _ _ => cases h4
    | box _ _ => cases h4
    | al _ => cases h4
    | din _ => cases h4
  | lst _ => cases h4
  | tup _ => cases h4
  | dic _ => cases h4
  | dit _ => cases h4
  | obj _ _ => cases h4
  | box _ _ => cases h4
  | al _ => cases h4
  | din _ => cases h4
def Sc2 (r : R2) (g : D → D → Option D) : Prop := ∀ a b d, g a b = some d → ∀ (K : KW) (H : Hp) (v w : V) (Q : VK), RpD K H a v → RpD K H b w → (∀ u, (∀ G, RpD K G d u) → Q u H) → r v w H Q
theorem ev_op {K : KW} {r : R2} {g : D → D → Option D} (hs : Sc2 r g) (ha : EvT K ta fa) (hb : EvT K tb fb) : EvT K (tOp r ta tb) (eOp g fa fb) := by
  intro G0 H0 W H ts vs env σ t env' S e Q q
  obtain ⟨a, e1, b, d, h1, h2, h3, rfl⟩ := eOp_some e
  refine ha _ _ _ _ _ _ _ _ _ _ S h1 _ fun v H1 s1 S1 => ?_
  refine hb _ _ _ _ _ _ _ _ _ _ S1 h2 _ fun w H2 s2 S2 => ?_
  exact hs a b d h3 K H2 v w Q S2.pop.top S2.top fun u hu => q u H2 (s1.trans s2) (S2.pop.pop.scal hu)
theorem dt_op {op : Operator} {r : R2} {g : D → D → Option D} (ho : OpR X (binaryOp op) r) (hs : Sc2 r g) (ha : DT X a ta fa) (hb : DT X b tb fb) : DT X (.BinOp a op b pos) (tOp r ta tb) (eOp g fa fb) :=
  ⟨pe_op ho ha.pe hb.pe, ev_op hs ha.ok hb.ok⟩
end
def gI (c : Int → Int → Bool) (f : Int → Int → Int) : D → D → Option D
  | .int i, .int j => if c i j then some (.int (f i j)) else none
  | _, _ => none
theorem gI_some {c : Int → Int → Bool} {f : Int → Int → Int} {a b d : D} (h : gI c f a b = some d) : ∃ i j, a = .int i ∧ b = .int j ∧ c i j = true ∧ d = .int (f i j) := by
  unfold gI at h
  split at h
  · rename_i i j
    by_cases hc : c i j = true
    · rw [if_pos hc] at h; cases h; exact ⟨i, j, rfl, rfl, hc, rfl⟩
    · rw [if_neg hc] at h; cases h
  · cases h
theorem sc_int {C : Int → Int → Prop} {c : Int → Int → Bool} {f : Int → Int → Int} (hc : ∀ i j, c i j = true → C i j) : Sc2 (rI C fun i j => .int (f i j)) (gI c f) := by
  intro a b d h K H v w Q hv hw q
  obtain ⟨i, j, rfl, rfl, h1, rfl⟩ := gI_some h
  exact ⟨i, j, hv, hw, hc i j h1, q _ fun _ => rfl⟩
theorem sc_int0 {f : Int → Int → Int} : Sc2 (rI0 fun i j => .int (f i j)) (gI (fun _ _ => true) f) := by
  intro a b d h K H v w Q hv hw q
  obtain ⟨i, j, rfl, rfl, h1, rfl⟩ := gI_some h
  exact ⟨i, j, hv, hw, q _ fun _ => rfl⟩
def mulOk (i j : Int) : Bool := decide ((-18446744073709551616 < i ∧ i < 18446744073709551616) ∨ (-18446744073709551616 < j ∧ j < 18446744073709551616) ∨ Builtin.Int.intBits i + Builtin.Int.intBits j ≤ 134217728)
def divOk (_ j : Int) : Bool := decide (0 < j ∧ j < 1606938044258990275541962092341162602522202993782792835301376)
def modOk (_ j : Int) : Bool := decide (0 < j)
def powOk (i j : Int) : Bool := decide (0 ≤ j ∧ j ≤ 1000 ∧ 0 ≤ i ∧ i < 18446744073709551616)
theorem mulOk_ok {i j : Int} (h : mulOk i j = true) : IntMulOk i j := by
  rcases of_decide_eq_true h with h | h | h
  · exact .of_left (intBits_le_64 (by omega) (by omega))
  · exact .of_right (intBits_le_64 (by omega) (by omega))
  · exact PyProof.Rows.mulOk_of_bits (Nat.le_refl _) (Nat.le_refl _) h
section
variable {X : Cx}
theorem op_mulB : OpR X (binaryOp .Mult) (rI IntMulOk fun i j => .int (i * j)) := opI fun _ _ _ _ _ _ _ hc q => mul_int q hc
theorem divOk_ok {i j : Int} (h : divOk i j = true) : CDivW i j := by
  obtain ⟨h1, h2⟩ := of_decide_eq_true h
  refine wide_div h1 (b := 200) ?_ (by decide) (by decide)
  have e : (2 : Nat) ^ 200 = 1606938044258990275541962092341162602522202993782792835301376 := by decide
  rw [e]; omega
theorem powOk_ok {i j : Int} (h : powOk i j = true) : CPow i j := by
  obtain ⟨h1, h2, h3, h4⟩ := of_decide_eq_true h
  refine ⟨h1, by omega, ?_⟩
  omega
end
end DL
namespace DL
open PySem PySem.Spec PyProof.Rows L2
inductive Fl where
  | nx | rt (t : T) | bk | ct
abbrev SF := Env → Option (Fl × Env)
def Dif (sl : List Nat) (σ σ' : St) : Prop := σ'.length = σ.length ∧ ∀ j, j ∉ sl → σ'[j]? = σ[j]?
theorem Dif.rfl' {sl : List Nat} {σ : St} : Dif sl σ σ := ⟨rfl, fun _ _ => rfl⟩
theorem Dif.set {i : Nat} {σ : St} {x : Option V} : Dif [i] σ (σ.set i x) := ⟨by simp, fun j hj => List.getElem?_set_ne (fun z => hj (by simp [z]))⟩
theorem Dif.tr {s1 s2 : List Nat} {σ σ1 σ2 : St} (a : Dif s1 σ σ1) (b : Dif s2 σ1 σ2) : Dif (s1 ++ s2) σ σ2 := ⟨b.1.trans a.1, fun j hj => (b.2 j fun z => hj (List.mem_append_right _ z)).trans (a.2 j fun z => hj (List.mem_append_left _ z))⟩
theorem Dif.l {s1 s2 : List Nat} {σ σ1 : St} (a : Dif s1 σ σ1) : Dif (s1 ++ s2) σ σ1 := ⟨a.1, fun j hj => a.2 j fun z => hj (List.mem_append_left _ z)⟩
theorem Dif.r {s1 s2 : List Nat} {σ σ1 : St} (a : Dif s2 σ σ1) : Dif (s1 ++ s2) σ σ1 := ⟨a.1, fun j hj => a.2 j fun z => hj (List.mem_append_right _ z)⟩
theorem Dif.two {s : List Nat} {σ σ1 σ2 : St} (a : Dif s σ σ1) (b : Dif s σ1 σ2) : Dif s σ σ2 := ⟨b.1.trans a.1, fun j hj => (b.2 j hj).trans (a.2 j hj)⟩
def Post (K : KW) (G0 H0 : Hp) (ts : List T) (vs : List V) (D : Ends) (fl : Fl) (env' : Env) (sl : List Nat) (σ : St) : Prop := match fl with
  | .nx => ∀ H' σ', OkS K G0 H0 [] H' ts vs env' σ' → Dif sl σ σ' → D.nx σ' H'
  | .bk => ∀ H' σ', OkS K G0 H0 [] H' ts vs env' σ' → Dif sl σ σ' → D.bk σ' H'
  | .ct => ∀ H' σ', OkS K G0 H0 [] H' ts vs env' σ' → Dif sl σ σ' → D.ct σ' H'
  | .rt t => ∀ v H' σ', OkS K G0 H0 [] H' (t :: ts) (v :: vs) env' σ' → Dif sl σ σ' → D.rt v H'
def EvS (K : KW) (s : TS) (F : SF) (sl : List Nat) : Prop := ∀ (G0 H0 H : Hp) (ts : List T) (vs : List V) (env : Env) (σ : St) (fl : Fl) (env' : Env), OkS K G0 H0 [] H ts vs env σ → F env = some (fl, env') → ∀ D : Ends, Post K G0 H0 ts vs D fl env' sl σ → s D σ H
structure DS (X : Cx) (st : Stmt) (s : TS) (F : SF) (sl : List Nat) : Prop where
  ps : PS X st s
  ok : EvS X.kw s F sl
structure DSs (X : Cx) (st : List Stmt) (s : TS) (F : SF) (sl : List Nat) : Prop where
  ps : PSs X st s
  ok : EvS X.kw s F sl
def sNx : SF := fun env => some (.nx, env)
def sSeq (F1 F2 : SF) : SF := fun env => (F1 env).bind fun r => match r.1 with
  | .nx => F2 r.2
  | .rt t => some (.rt t, r.2)
  | .bk => some (.bk, r.2)
  | .ct => some (.ct, r.2)
def sRet (f : EF) : SF := fun env => (f env).map fun r => (.rt r.1, r.2)
def sRetN : SF := fun env => some (.rt (.p .non), env)
def sBk : SF := fun env => some (.bk, env)
def sCt : SF := fun env => some (.ct, env)
def sIf (c : CF) (F1 F2 : SF) : SF := fun env => (c env).bind fun r => if r.1 then F1 r.2 else F2 r.2
def sSet (i : Nat) (f : EF) : SF := fun env => (f env).bind fun r => if i < r.2.length then some (.nx, r.2.set i (some r.1)) else none
def sDrop (f : EF) : SF := fun env => (f env).map fun r => (.nx, r.2)
section
variable {X : Cx} {e : Expr} {st : Stmt} {sts : List Stmt} {te : TE} {tc : TT} {f : EF} {c : CF} {t u : TS} {F1 F2 : SF} {pos : Pos} {sl sl2 : List Nat}
theorem dss_nil : DSs X [] tNext sNx [] := by
  refine ⟨pss_nil, ?_⟩
  intro G0 H0 H ts vs env σ fl env' S e D q
  cases e
  exact q H σ S .rfl'
theorem dss_cons (h1 : DS X st t F1 sl) (h2 : DSs X sts u F2 sl2) : DSs X (st :: sts) (tSeq t u) (sSeq F1 F2) (sl ++ sl2) := by
  refine ⟨pss_cons h1.ps h2.ps, ?_⟩
  intro G0 H0 H ts vs env σ fl env' S g D q
  obtain ⟨⟨fl1, e1⟩, g1, g2⟩ := obind g
  refine h1.ok _ _ _ _ _ _ _ _ _ S g1 _ ?_
  cases fl1 with
  | nx =>
    intro H' σ' S' f1
    refine h2.ok _ _ _ _ _ _ _ _ _ S' g2 D ?_
    cases fl with
    | nx => exact fun H2 σ2 S2 f2 => q H2 σ2 S2 (f1.tr f2)
    | bk => exact fun H2 σ2 S2 f2 => q H2 σ2 S2 (f1.tr f2)
    | ct => exact fun H2 σ2 S2 f2 => q H2 σ2 S2 (f1.tr f2)
    | rt v => exact fun w H2 σ2 S2 f2 => q w H2 σ2 S2 (f1.tr f2)
  | rt t => cases g2; exact fun w H2 σ2 S2 f2 => q w H2 σ2 S2 f2.l
  | bk => cases g2; exact fun H2 σ2 S2 f2 => q H2 σ2 S2 f2.l
  | ct => cases g2; exact fun H2 σ2 S2 f2 => q H2 σ2 S2 f2.l
theorem dss_one (h1 : DS X st t F1 sl) : DSs X [st] t F1 sl := ⟨pss_one h1.ps, h1.ok⟩
theorem ds_break : DS X (.Break pos) tBreak sBk [] := ⟨ps_break, fun _ _ H _ _ _ σ _ _ S e _ q => by cases e; exact q H σ S .rfl'⟩
theorem ds_continue : DS X (.Continue pos) tCont sCt [] := ⟨ps_continue, fun _ _ H _ _ _ σ _ _ S e _ q => by cases e; exact q H σ S .rfl'⟩
theorem ds_ret (h : DT X e te f) : DS X (.Return (some e) pos) (tRet te) (sRet f) [] := by
  refine ⟨ps_ret h.pe, ?_⟩
  intro G0 H0 H ts vs env σ fl env' S g D q
  obtain ⟨⟨x, e1⟩, g1, g2⟩ := omap g
  cases g2
  exact h.ok _ _ _ _ _ _ _ _ _ _ S g1 _ fun v H' _ S' => q v H' σ S' .rfl'
theorem ds_if {a b : List Stmt} (hc : DC X e tc c) (h1 : DSs X a t F1 sl) (h2 : DSs X b u F2 sl2) : DS X (.If e a b pos) (tIfS tc t u) (sIf c F1 F2) (sl ++ sl2) := by
  refine ⟨ps_if hc.pt h1.ps h2.ps, ?_⟩
  intro G0 H0 H ts vs env σ fl env' S g D q
  obtain ⟨⟨b, e1⟩, g1, g2⟩ := obind g
  refine hc.ok _ _ _ _ _ _ _ _ _ _ S g1 _ fun H' _ S' => ?_
  cases b with
  | true =>
    rw [if_pos rfl]
    refine h1.ok _ _ _ _ _ _ _ _ _ S' g2 D ?_
    cases fl with
    | nx => exact fun H2 σ2 S2 f2 => q H2 σ2 S2 f2.l
    | bk => exact fun H2 σ2 S2 f2 => q H2 σ2 S2 f2.l
    | ct => exact fun H2 σ2 S2 f2 => q H2 σ2 S2 f2.l
    | rt v => exact fun w H2 σ2 S2 f2 => q w H2 σ2 S2 f2.l
  | false =>
    rw [if_neg Bool.false_ne_true]
    refine h2.ok _ _ _ _ _ _ _ _ _ S' g2 D ?_
    cases fl with
    | nx => exact fun H2 σ2 S2 f2 => q H2 σ2 S2 f2.r
    | bk => exact fun H2 σ2 S2 f2 => q H2 σ2 S2 f2.r
    | ct => exact fun H2 σ2 S2 f2 => q H2 σ2 S2 f2.r
    | rt v => exact fun w H2 σ2 S2 f2 => q w H2 σ2 S2 f2.r
theorem evs_set {K : KW} {i : Nat} (h : EvT K te f) : EvS K (tAsg te (gName i)) (sSet i f) [i] := by
  intro G0 H0 H ts vs env σ fl env' S g D q
  obtain ⟨⟨x, e1⟩, g1, g2⟩ := obind g
  by_cases hi : i < e1.length
  · rw [if_pos hi] at g2
    cases g2
    exact h _ _ _ _ _ _ _ _ _ _ S g1 _ fun v H' _ S' => q H' _ (S'.put hi) .set
  · rw [if_neg hi] at g2; cases g2
theorem ds_set {i : Nat} {x : Str} {pos' : Pos} (hN : X.N.Nodup) (hi : X.N[i]? = some x) (hx : Loc X.env.scope x) (he : DT X e te f) (hs : swapsWith e (some (.Name x pos')) pos.line X.env = pure false := by rfl) (hf : X.fn x = true ∨ X.env.scope.names.lookup x = some .local := by first | exact .inl rfl | exact .inr rfl | assumption) :
    DS X (.Assign [.Name x pos'] e pos) (tAsg te (gName i)) (sSet i f) [i] := ⟨ps_set hN hi hx he.pe hs hf, evs_set he.ok⟩
end
abbrev GF := T → Env → Option Env
abbrev GsF := List T → Env → Option Env
def EvG (K : KW) (g : TG) (G : GF) (sl : List Nat) : Prop := ∀ (G0 H0 : Hp) (W : List (T × V)) (H : Hp) (ts : List T) (vs : List V) (env : Env) (σ : St) (d : T) (x : V) (env' : Env), OkS K G0 H0 W H (d :: ts) (x :: vs) env σ → G d env = some env' →
  ∀ Q : St → Hp → Prop, (∀ σ', OkS K G0 H0 W H ts vs env' σ' → Dif sl σ σ' → Q σ' H) → g x σ H Q
def EvGs (K : KW) (g : TGs) (G : GsF) (sl : List Nat) : Prop := ∀ (G0 H0 : Hp) (W : List (T × V)) (H : Hp) (ts : List T) (vs : List V) (env : Env) (σ : St) (ds : List T) (xs : List V) (env' : Env), OkS K G0 H0 W H (ds ++ ts) (xs ++ vs) env σ → xs.length = ds.length → G ds env = some env' →
  ∀ Q : St → Hp → Prop, (∀ σ', OkS K G0 H0 W H ts vs env' σ' → Dif sl σ σ' → Q σ' H) → g xs σ H Q
structure DG (X : Cx) (tg : Expr) (g : TG) (G : GF) (sl : List Nat) : Prop where
  pg : PG X tg g
  ok : EvG X.kw g G sl
structure DGs (X : Cx) (tg : List Expr) (g : TGs) (G : GsF) (sl : List Nat) : Prop where
  pg : PGs X tg g
  ok : EvGs X.kw g G sl
def gNm (i : Nat) : GF := fun d env => if i < env.length then some (env.set i (some d)) else none
def gEnd : GsF := fun ds env => match ds with | [] => some env | _ => none
def gAnd (g : GF) (r : GsF) : GsF := fun ds env => match ds with | d :: ds => (g d env).bind (r ds) | [] => none
def partsT : T → Option (List T)
  | .p (.tup ds) => some (ds.map T.p)
  | .tup ts => some ts
  | _ => none
def gTp (n : Nat) (g : GsF) : GF := fun d env => (partsT d).bind fun us => if us.length = n then g us env else none
theorem OkS.parts {K : KW} {G0 H0 H : Hp} {W : List (T × V)} {ts us : List T} {vs : List V} {env : Env} {σ : St} {v : V} {t : T} (S : OkS K G0 H0 W H (t :: ts) (v :: vs) env σ) (h : partsT t = some us) :
    ∃ a xs, v = .ref a ∧ SqT K H a xs ∧ xs.length = us.length ∧ OkS K G0 H0 W H (us ++ ts) (xs ++ vs) env σ := by
  obtain ⟨G, ot, oe, s⟩ := S
  obtain ⟨u, r, o1, o2, h1, h2, h3, h4⟩ := s.tmp
  cases h1
  cases t with
  | p d =>
    cases d with
    | tup ds =>
      cases h
      obtain ⟨⟨a, xs, e1, e2, e3⟩, e4⟩ := h2
      subst e4
      refine ⟨a, xs, e1, tup_seq s.gh e2, by rw [List.length_map]; exact e3.len, G, ot, oe, ?_, s.env, s.nd, s.fr, s.g0, s.gh, s.h0, s.nw, s.vw⟩
      rw [h4]
      exact (rpTs_p e3).append h3
    | _ => cases h
  | tup us' =>
    cases h
    obtain ⟨a, xs, e1, e2, e3⟩ := h2
    refine ⟨a, xs, e1, tup_seq s.gh e2, e3.len, G, ot, oe, ?_, s.env, s.nd, s.fr, s.g0, s.gh, s.h0, s.nw, s.vw⟩
    rw [h4]
    exact e3.append h3
  | lst _ => cases h
  | dic _ => cases h
  | dit _ => cases h
  | obj _ _ => cases h
  | box _ _ => cases h
  | al _ => cases h
  | din _ => cases h
section
variable {X : Cx} {e : Expr} {es : List Expr} {g : TG} {gs : TGs} {G : GF} {Gs : GsF} {pos : Pos}
theorem dg_name {i : Nat} {x : Str} (hN : X.N.Nodup) (hi : X.N[i]? = some x) (hx : Loc X.env.scope x) (hf : X.fn x = true ∨ X.env.scope.names.lookup x = some .local := by first | exact .inl rfl | exact .inr rfl | assumption) : DG X (.Name x pos) (gName i) (gNm i) [i] := by
  refine ⟨pg_name hN hi hx hf, ?_⟩
  intro G0 H0 W H ts vs env σ d x env' S e Q q
  unfold gNm at e
  by_cases hl : i < env.length
  · rw [if_pos hl] at e
    cases e
    exact q _ (S.put hl) .set
  · rw [if_neg hl] at e; cases e
theorem dgs_nil : DGs X [] gNil gEnd [] := by
  refine ⟨pgs_nil, ?_⟩
  intro G0 H0 W H ts vs env σ ds xs env' S hl e Q q
  cases ds with
  | nil =>
    cases e
    cases xs with
    | nil => exact ⟨rfl, q σ S ⟨rfl, fun _ _ => rfl⟩⟩
    | cons _ _ => simp at hl
  | cons _ _ => cases e
theorem dgs_cons {sl sl2 : List Nat} (h1 : DG X e g G sl) (h2 : DGs X es gs Gs sl2) (hs : (assignEach (e :: es) X.env).map (·.2) = assign e X.env :: (assignEach es X.env).map (·.2) := by rfl) : DGs X (e :: es) (gCons g gs) (gAnd G Gs) (sl ++ sl2) := by
  refine ⟨pgs_cons h1.pg h2.pg hs, ?_⟩
  intro G0 H0 W H ts vs env σ ds xs env' S hl e Q q
  cases ds with
  | nil => cases e
  | cons d ds =>
    cases xs with
    | nil => simp at hl
    | cons x xs =>
      obtain ⟨e1, g1, g2⟩ := obind e
      refine ⟨x, xs, rfl, ?_⟩
      exact h1.ok _ _ _ _ _ _ _ _ _ _ _ S g1 _ fun σ' S' f1 => h2.ok _ _ _ _ _ _ _ _ _ _ _ S' (by simpa using hl) g2 _ fun σ2 S2 f2 => q σ2 S2 ⟨f2.1.trans f1.1, fun j hj => (f2.2 j fun z => hj (List.mem_append_right _ z)).trans (f1.2 j fun z => hj (List.mem_append_left _ z))⟩
theorem dg_tup {k n : Nat} {sl : List Nat} (hc : X.calm = true) (h : DGs X es gs Gs sl) (hn : (assignEach es X.env).length = n := by rfl) (hst : (assignEach es X.env).findIdx? (·.1) = none := by rfl) : DG X (.Tuple es k pos) (gTup X.K n gs) (gTp n Gs) sl := by
  refine ⟨pg_tup hc h.pg hn hst, ?_⟩
  intro G0 H0 W H ts vs env σ d x env' S e Q q
  obtain ⟨us, h1, h2⟩ := obind e
  by_cases hl : us.length = n
  · rw [if_pos hl] at h2
    obtain ⟨a, xs, rfl, hx, hxl, S'⟩ := S.parts h1
    exact ⟨a, xs, rfl, hx, hxl.trans hl, h.ok _ _ _ _ _ _ _ _ _ _ _ S' hxl h2 _ q⟩
  · rw [if_neg hl] at h2; cases h2
def sAsg (f : EF) (G : GF) : SF := fun env => (f env).bind fun r => (G r.1 r.2).map fun e => (.nx, e)
end
structure ItOk (K : KW) (G1 : Hp) (J : It) (ds : List D) : Prop where
  go : ∀ (i : Nat) (H : Hp), Same G1 H → i < ds.length → J.go i H
  stop : ∀ H : Hp, Same G1 H → J.stop ds.length H
  yld : ∀ (i : Nat) (H : Hp) (x : V) (H' : Hp) (d : D), Same G1 H → ds[i]? = some d → J.yld i H x H' → (H' = H ∧ RpD K G1 d x) ∨ ∃ (p : Addr) (xs : List V) (es : List D), H p = none ∧ H' = upd H p (.tup xs) ∧ x = .ref p ∧ d = .tup es ∧ RpDs K G1 es xs
structure Gst (G0 H0 G1 : Hp) : Prop where
  s : Same G0 G1
  nw : ∀ a o, G1 a = some o → G0 a ≠ none ∨ H0 a = none ∨ Fix o
section
variable {K : KW} {G0 H0 H G1 : Hp} {W : List (T × V)} {ts : List T} {vs : List V} {env : Env} {σ : St} {t : T} {v : V}
theorem OkS.back (S : OkS K G1 H0 W H ts vs env σ) (g : Gst G0 H0 G1) : OkS K G0 H0 W H ts vs env σ := by
  obtain ⟨G, ot, oe, s⟩ := S
  refine ⟨G, ot, oe, s.tmp, s.env, s.nd, s.fr, g.s.trans s.g0, s.gh, s.h0, fun a o e => ?_, s.vw⟩
  rcases s.nw a o e with h | h | h
  · cases q : G1 a with
    | none => exact absurd q h
    | some u =>
      have := s.g0 a u q
      rw [e] at this
      cases this
      exact g.nw a o q
  · exact .inr (.inl h)
  · exact .inr (.inr h)
theorem OkS.fix (S : OkS K G0 H0 W H ts vs env σ) : ∃ G1, Gst G0 H0 G1 ∧ Same G1 H ∧ OkS K G1 H0 W H ts vs env σ := by
  obtain ⟨G, ot, oe, s⟩ := S
  refine ⟨G, ⟨s.g0, s.nw⟩, s.gh, G, ot, oe, s.tmp, s.env, s.nd, s.fr, Same.refl _, s.gh, s.h0, fun a o e => .inl (by rw [e]; simp), s.vw⟩
theorem OkS.fixTop {d : D} (S : OkS K G0 H0 W H (.p d :: ts) (v :: vs) env σ) : ∃ G1, Gst G0 H0 G1 ∧ Same G1 H ∧ RpD K G1 d v ∧ OkS K G1 H0 W H ts vs env σ := by
  have S' := S.pop
  obtain ⟨G, ot, oe, s⟩ := S
  obtain ⟨u, r, o1, o2, h1, h2, h3, h4⟩ := s.tmp
  cases h1
  have e4 : o2 = ot := by rw [h4, h2.2]; rfl
  rw [e4] at h3
  refine ⟨G, ⟨s.g0, s.nw⟩, s.gh, h2.1, G, ot, oe, h3, s.env, s.nd, s.fr, Same.refl _, s.gh, s.h0, fun a o e => .inl (by rw [e]; simp), s.vw⟩
theorem OkS.same (S : OkS K G1 H0 W H ts vs env σ) : Same G1 H := by
  obtain ⟨G, ot, oe, s⟩ := S
  exact s.g0.trans s.gh
theorem OkS.pushG {d : D} (S : OkS K G1 H0 W H ts vs env σ) (h : RpD K G1 d v) : OkS K G1 H0 W H (.p d :: ts) (v :: vs) env σ := by
  obtain ⟨G, ot, oe, s⟩ := S
  exact ⟨G, ot, oe, ⟨v, vs, [], ot, rfl, ⟨RpD.mono s.g0 _ h, rfl⟩, s.tmp, rfl⟩, s.env, s.nd, s.fr, s.g0, s.gh, s.h0, s.nw, s.vw⟩
theorem OkS.pushGs : ∀ {ds : List D} {xs : List V}, OkS K G1 H0 W H ts vs env σ → RpDs K G1 ds xs → OkS K G1 H0 W H (ds.map T.p ++ ts) (xs ++ vs) env σ
  | [], xs, S, h => by rw [show xs = [] from h]; exact S
  | d :: ds, xs, S, ⟨v, r, h1, h2, h3⟩ => by
    subst h1
    exact (OkS.pushGs S h3).pushG h2
end
theorem mkTup_p (ds : List D) : mkTup (ds.map T.p) = .p (.tup ds) := by
  have e : allP (ds.map T.p) = some ds := by
    induction ds with
    | nil => rfl
    | cons d ds ih => simp [allP, ih]
  unfold mkTup
  rw [e]
def loopD (G : GF) (body : SF) : List D → Env → Option (Fl × Env)
  | [], env => some (.nx, env)
  | d :: ds, env => (G (.p d) env).bind fun e1 => (body e1).bind fun r => match r.1 with
    | .nx => loopD G body ds r.2
    | .ct => loopD G body ds r.2
    | .bk => some (.nx, r.2)
    | .rt t => some (.rt t, r.2)
abbrev IF := Env → Option (List D × Env)
def EvI (K : KW) (wi : TI) (f : IF) : Prop := ∀ (G0 H0 : Hp) (W : List (T × V)) (H : Hp) (ts : List T) (vs : List V) (env : Env) (σ : St) (ds : List D) (env' : Env), OkS K G0 H0 W H ts vs env σ → f env = some (ds, env') →
  ∀ R : It → Hp → Prop, (∀ J H' G1, Same H H' → Gst G0 H0 G1 → ItOk K G1 J ds → OkS K G1 H0 W H' ts vs env' σ → R J H') → wi σ H R
structure DI (X : Cx) (tg it : Expr) (wi : TI) (f : IF) : Prop where
  pi : PI X tg it wi
  ok : EvI X.kw wi f
def sFor (f : IF) (G : GF) (body : SF) : SF := fun env => (f env).bind fun r => loopD G body r.1 r.2
theorem ItOk.item {K : KW} {G1 H0 H H' : Hp} {J : It} {ds : List D} {W : List (T × V)} {ts : List T} {vs : List V} {env : Env} {σ : St} {i : Nat} {d : D} {x : V} (I : ItOk K G1 J ds) (S : OkS K G1 H0 W H ts vs env σ) (hd : ds[i]? = some d) (y : J.yld i H x H') :
    Same H H' ∧ OkS K G1 H0 W H' (.p d :: ts) (x :: vs) env σ := by
  rcases I.yld i H x H' d S.same hd y with ⟨rfl, h⟩ | ⟨p, xs, es, hp, rfl, rfl, rfl, h⟩
  · exact ⟨Same.refl _, S.pushG h⟩
  · have S2 := (S.pushGs h).newT (by rw [List.length_map]; exact h.len) hp
    rw [mkTup_p] at S2
    exact ⟨same_upd hp, S2⟩
theorem ds_for {X : Cx} {tg iter : Expr} {body : List Stmt} {wi : TI} {f : IF} {g : TG} {G : GF} {tb : TS} {F : SF} {pos : Pos} {sl sl2 : List Nat} (hp : PassesOwn (model X.prog X.w) X.A X.env X.xe) (hc : X.calm = true) (hi : DI X tg iter wi f) (hg : DG X tg g G sl) (hb : DSs X body tb F sl2)
    (hs : ∀ x, foldedSetIterable iter X.env x = pure x := by intro _; rfl) : DS X (.For tg iter body [] pos) (tFor wi g tb) (sFor f G F) (sl ++ sl2) := by
  refine ⟨ps_for hp hc hi.pi hg.pg hb.ps hs, ?_⟩
  intro G0 H0 H ts vs env σ fl env' S e D q
  obtain ⟨⟨ds, e1⟩, g1, g2⟩ := obind e
  refine hi.ok _ _ _ _ _ _ _ _ _ _ S g1 _ fun J H1 G1 s1 gst I S1 => ?_
  refine ⟨fun i m σ2 H => m = ds.length - i ∧ i ≤ ds.length ∧ Dif (sl ++ sl2) σ σ2 ∧ ∃ env, OkS X.kw G1 H0 [] H ts vs env σ2 ∧ loopD G F (ds.drop i) env = some (fl, env'), ⟨ds.length, by simp, Nat.zero_le _, .rfl', e1, S1, by simpa using g2⟩, ?_⟩
  rintro i m σ2 H2 ⟨rfl, hle, df, env2, S2, hl⟩
  by_cases hlt : i < ds.length
  · refine .inr ⟨I.go i H2 S2.same hlt, fun σ' H' => i + 1 ≤ ds.length ∧ Dif (sl ++ sl2) σ σ' ∧ ∃ env, OkS X.kw G1 H0 [] H' ts vs env σ' ∧ loopD G F (ds.drop (i + 1)) env = some (fl, env'), fun σ' H' ⟨h1, h2⟩ => ⟨ds.length - (i + 1), by omega, rfl, h1, h2⟩, fun x H3 y => ?_⟩
    obtain ⟨s3, S3⟩ := I.item S2 (List.getElem?_eq_getElem hlt) y
    rw [List.drop_eq_getElem_cons hlt] at hl
    obtain ⟨e2, l1, l2⟩ := obind hl
    obtain ⟨⟨fl2, e3⟩, l3, l4⟩ := obind l2
    refine hg.ok _ _ _ _ _ _ _ _ _ _ _ S3 l1 _ fun σ' S' f1 => ?_
    refine hb.ok _ _ _ _ _ _ _ _ _ S' l3 _ ?_
    cases fl2 with
    | nx => exact fun H' σ4 S4 f2 => ⟨hlt, df.two (f1.tr f2), e3, S4, l4⟩
    | ct => exact fun H' σ4 S4 f2 => ⟨hlt, df.two (f1.tr f2), e3, S4, l4⟩
    | bk => cases l4; exact fun H' σ4 S4 f2 => q H' σ4 (S4.back gst) (df.two (f1.tr f2))
    | rt t => cases l4; exact fun v H' σ' S4 f2 => q v H' σ' (S4.back gst) (df.two (f1.tr f2))
  · have hi' : i = ds.length := by omega
    subst hi'
    rw [List.drop_length] at hl
    cases hl
    exact .inl ⟨I.stop H2 S2.same, q H2 σ2 (S2.back gst) df⟩
def iL (f : EF) : IF := fun env => (f env).bind fun r => match r.1 with | .p (.lst ds) => some (ds, r.2) | _ => none
def iTp (f : EF) : IF := fun env => (f env).bind fun r => match r.1 with | .p (.tup ds) => some (ds, r.2) | _ => none
theorem itOk_l {K : KW} {G1 : Hp} {a : Addr} {ds : List D} {xs : List V} (h : SqL K G1 a xs) (hr : RpDs K G1 ds xs) : ItOk K G1 (Itl K a) ds where
  go := fun i H s hi => ⟨xs, xs[i]'(by rw [hr.len]; exact hi), s.seq h, List.getElem?_eq_getElem _⟩
  stop := fun H s => ⟨xs, s.seq h, by rw [hr.len]; exact Nat.le_refl _⟩
  yld := fun i H x H' d s hd y => by
    obtain ⟨e, y⟩ := y
    obtain ⟨v, h1, h2⟩ := hr.get hd
    have := y xs (s.seq h)
    rw [h1] at this
    cases this
    exact .inl ⟨e, h2⟩
theorem di_list {X : Cx} {tg e : Expr} {te : TE} {f : EF} (h : DT X e te f) : DI X tg e (iList X.K te) (iL f) := by
  refine ⟨pi_list h.pe, ?_⟩
  intro G0 H0 W H ts vs env σ ds env' S g R r
  obtain ⟨⟨t, e1⟩, g1, g2⟩ := obind g
  cases t with
  | p d =>
    cases d with
    | lst ds' =>
      cases g2
      refine h.ok _ _ _ _ _ _ _ _ _ _ S g1 _ fun v H1 s1 S1 => ?_
      obtain ⟨G1, gst, sG, ⟨a, xs, e1, e2, e3⟩, S2⟩ := S1.fixTop
      exact ⟨a, e1, ⟨xs, sG.seq (.inl e2)⟩, r _ _ G1 s1 gst (itOk_l (.inl e2) e3) S2⟩
    | _ => cases g2
  | _ => cases g2
def rngD (lo : Int) (n : Nat) : List D := (List.range n).map fun (k : Nat) => D.int (lo + (k : Int))
theorem itOk_r {K : KW} {G1 : Hp} {lo : Int} {n : Nat} : ItOk K G1 (Itr lo n) (rngD lo n) where
  go := fun i H s hi => by show i < n; simpa [rngD] using hi
  stop := fun H s => by show n ≤ _; simp [rngD]
  yld := fun i H x H' d s hd y => by
    obtain ⟨e, y⟩ := y
    refine .inl ⟨e, ?_⟩
    by_cases hi : i < n
    · simp [rngD, hi] at hd
      subst hd
      exact y
    · simp [rngD, hi] at hd
def iR1 (f : AF) : IF := fun env => (f env).bind fun r => match r.1 with
  | [.p (.int j)] => if j < 4611686018427387904 ∧ -4611686018427387904 ≤ j then some (rngD 0 j.toNat, r.2) else none
  | _ => none
def iR2 (f : AF) : IF := fun env => (f env).bind fun r => match r.1 with
  | [.p (.int i), .p (.int j)] => if (i < 4611686018427387904 ∧ -4611686018427387904 ≤ i) ∧ (j < 4611686018427387904 ∧ -4611686018427387904 ≤ j) then some (rngD i (j - i).toNat, r.2) else none
  | _ => none
theorem di_range1 {X : Cx} {tg a : Expr} {ta : TA} {f : AF} {p pos : Pos} (hg : Gl X "range") (hm : X.mg "range" = none) (h : DA X [a] ta f) (hs : starEach [a] X.env = [(false, eval a X.env)] := by rfl) : DI X tg (.Call (.Name "range" p) [a] [] pos) (iRng1 ta) (iR1 f) := by
  refine ⟨pi_range1 hg hm h.pa hs, ?_⟩
  intro G0 H0 W H ts vs env σ ds env' S g R r
  obtain ⟨⟨us, e1⟩, g1, g2⟩ := obind g
  refine h.ok _ _ _ _ _ _ _ _ _ _ S g1 _ fun ws H1 s1 hl S1 => ?_
  dsimp only at g2
  split at g2
  · rename_i j
    by_cases hj : j < 4611686018427387904 ∧ -4611686018427387904 ≤ j
    · rw [if_pos hj] at g2
      cases g2
      cases ws with
      | nil => simp at hl
      | cons w ws =>
        cases ws with
        | cons _ _ => simp at hl
        | nil =>
          have ew : w = .int j := S1.top
          obtain ⟨G1, gst, sG, S2⟩ := OkS.fix (show OkS X.kw G0 H0 W H1 ts vs _ σ from S1.pop)
          exact ⟨j, by rw [ew], by omega, by omega, r _ _ G1 s1 gst itOk_r S2⟩
    · rw [if_neg hj] at g2; cases g2
  · cases g2
theorem di_range2 {X : Cx} {tg a b : Expr} {ta : TA} {f : AF} {p pos : Pos} (hg : Gl X "range") (hm : X.mg "range" = none) (h : DA X [a, b] ta f) (hs : starEach [a, b] X.env = [(false, eval a X.env), (false, eval b X.env)] := by rfl) (hs2 : starEach [b] X.env = [(false, eval b X.env)] := by rfl) :
    DI X tg (.Call (.Name "range" p) [a, b] [] pos) (iRng2 ta) (iR2 f) := by
  refine ⟨pi_range2 hg hm h.pa hs hs2, ?_⟩
  intro G0 H0 W H ts vs env σ ds env' S g R r
  obtain ⟨⟨us, e1⟩, g1, g2⟩ := obind g
  refine h.ok _ _ _ _ _ _ _ _ _ _ S g1 _ fun ws H1 s1 hl S1 => ?_
  dsimp only at g2
  split at g2
  · rename_i i j
    by_cases hj : (i < 4611686018427387904 ∧ -4611686018427387904 ≤ i) ∧ (j < 4611686018427387904 ∧ -4611686018427387904 ≤ j)
    · rw [if_pos hj] at g2
      cases g2
      match ws, hl with
      | [w1, w2], _ =>
        have e1 : w1 = .int i := S1.top
        have e2 : w2 = .int j := (show OkS X.kw G0 H0 W H1 (.p (.int j) :: ts) (w2 :: vs) _ σ from S1.pop).top
        obtain ⟨G1, gst, sG, S2⟩ := OkS.fix (show OkS X.kw G0 H0 W H1 ts vs _ σ from S1.pop.pop)
        exact ⟨i, j, by rw [e1, e2], ⟨by omega, by omega, by omega, by omega⟩, r _ _ G1 s1 gst itOk_r S2⟩
    · rw [if_neg hj] at g2; cases g2
  · cases g2
end DL
namespace DL
open PySem PySem.Spec PyProof.Rows L2
def spD (n : Nat) (φ : List D → Option T) (K : KW) : Sp := fun vs H Q _ => ∃ ds t G, ds.length = n ∧ φ ds = some t ∧ Same G H ∧ RpDs K G ds vs ∧ ∀ v G' H' o, Same G G' → Same G' H' → Same H H' → Rp K G' H' t v o → o.Nodup → (∀ a ∈ o, G' a = none ∧ H a = none) →
  (∀ a u, G' a = some u → G a ≠ none ∨ H a = none ∨ Fix u) → Q v H'
def startE (n : Nat) (ds : List D) : Env := ds.map (fun d => some (.p d)) ++ List.replicate (n - ds.length) none
def runF (n k : Nat) (F : SF) (ds : List D) : Option T := if ds.length = k then (F (startE n ds)).bind fun r => match r.1 with
  | .rt t => some t
  | .nx => some (.p .non)
  | _ => none
  else none
theorem rpE_start {K : KW} {G H : Hp} {m : Nat} : ∀ {ds : List D} {vs : List V}, RpDs K G ds vs → RpE K G H (ds.map (fun d => some (.p d)) ++ List.replicate m none) (vs.map some ++ List.replicate m none) []
  | [], vs, h => by
    rw [show vs = [] from h]
    show RpE K G H (List.replicate m none) (List.replicate m none) []
    induction m with
    | zero => exact ⟨rfl, rfl⟩
    | succ m ih => exact ⟨none, _, rfl, ih⟩
  | d :: ds, vs, ⟨v, r, h1, h2, h3⟩ => by
    subst h1
    exact ⟨v, _, [], [], rfl, ⟨h2, rfl⟩, rpE_start h3, rfl⟩
theorem L2_start {N : List Str} {vs : List V} : start N vs = vs.map some ++ List.replicate (N.length - vs.length) none := rfl
section
variable {P : Program} {w : World} {K : KW} {mg : Str → Option Value} {base : Heap}
theorem okD {x qual : Str} {st : Stmt} {f : Addr} {fd : FuncData} {N ps : List Str} {k : Nat} {n np : Nat} {Fb : SF} (F : Fun K x qual st f fd) (S : FnScope N ps (defScope st)) (hn : N.length = n) (hnp : ps.length = np)
    (hbody : ∀ (cdv : Value) (A : Around) (outer : List PySem.Env) (s : Shared) (H : Hp) (E : XK), Room k (A.deeper (envOfC qual (defScope st) s.heap.objs.size f cdv)) →
      ∃ t sl, DSs (cxOf CX0 K.P K.w K mg base N qual (defScope st) f cdv A outer s H E).nox (defBody st) t Fb sl) : FnOk K.P K.w K mg base CX0 (k + 1) f fd ps (spD np (runF n np Fb) K) := by
  refine F.ok S (fun vs H Q E h => ?_) (fun cdv A outer s H vs Q E hr h => ?_)
  · obtain ⟨ds, t, G, h1, _, _, h2, _⟩ := h
    rw [h2.len, h1, hnp]
  · obtain ⟨ds, t, G, h1, h2, h3, h4, q⟩ := h
    obtain ⟨tr, sl, hd⟩ := hbody cdv A outer s H E hr
    refine ⟨tr, hd.ps, ?_⟩
    unfold runF at h2
    rw [if_pos h1] at h2
    obtain ⟨⟨fl, e1⟩, g1, g2⟩ := obind h2
    have S0 : OkS K G H [] H [] [] (startE n ds) (start N vs) := by
      refine ⟨G, [], [], ⟨rfl, rfl⟩, ?_, by simp, fun a ha => by simp at ha, Same.refl _, h3, Same.refl _, fun a o e => .inl (by rw [e]; simp), fun q hq => by cases hq⟩
      rw [L2_start, hn, h4.len]
      exact rpE_start h4
    refine hd.ok G H H [] [] _ _ fl e1 S0 g1 _ ?_
    have fin : ∀ (u : T) (v : V) (H' : Hp) (env : Env) (σ : St), OkS K G H [] H' [u] [v] env σ → u = t → Q v H' := fun u v H' env σ S1 e => by
      subst e
      obtain ⟨G', ot, oe, s1⟩ := S1
      obtain ⟨w, r, o1, o2, a1, a2, a3, a4⟩ := s1.tmp
      cases a1
      have a5 : o2 = [] := a3.2
      subst a5
      rw [List.append_nil] at a4
      subst a4
      exact q v G' H' ot s1.g0 s1.gh s1.h0 a2 (List.nodup_append.mp s1.nd).1 (fun a ha => s1.fr a (List.mem_append_left _ ha)) s1.nw
    cases fl with
    | nx =>
      have e : T.p .non = t := Option.some.inj g2
      exact fun H' σ' S1 _ => fin _ _ H' e1 σ' (S1.scal (z := .non) (u := .non) fun _ => rfl) e
    | rt u =>
      have e : u = t := Option.some.inj g2
      exact fun v H' σ' S1 _ => fin _ _ H' e1 σ' S1 e
    | bk => cases g2
    | ct => cases g2
end
def eCall (φ : List D → Option T) (fa : AF) : EF := fun env => (fa env).bind fun r => (allP r.1).bind fun ds => (φ ds).map fun t => (t, r.2)
theorem OkS.called {K : KW} {G0 H0 H H' G G' : Hp} {W : List (T × V)} {ts : List T} {vs : List V} {env : Env} {σ : St} {ot oe o : List Addr} {t : T} {v : V} (s : St0 K G0 H0 W G H ts vs env σ ot oe)
    (h1 : Same G G') (h2 : Same G' H') (h3 : Same H H') (h4 : Rp K G' H' t v o) (h5 : o.Nodup) (h6 : ∀ a ∈ o, G' a = none ∧ H a = none) (h7 : ∀ a u, G' a = some u → G a ≠ none ∨ H a = none ∨ Fix u) : OkS K G0 H0 W H' (t :: ts) (v :: vs) env σ := by
  have all : ∀ a ∈ ot ++ oe, ∃ u, H a = some u ∧ ¬ Fix u := fun a ha => by
    rcases List.mem_append.mp ha with ha | ha
    · exact s.tmp.there _ a ha
    · exact s.env.there _ a ha
  have kp : ∀ a ∈ ot ++ oe, H' a = H a := fun a ha => by
    obtain ⟨u, e, _⟩ := all a ha
    rw [e, h3 a u e]
  refine ⟨G', o ++ ot, oe, ⟨v, vs, o, ot, rfl, h4, s.tmp.mono h1 _ (fun a ha => kp a (List.mem_append_left _ ha)), rfl⟩, s.env.mono h1 _ (fun a ha => kp a (List.mem_append_right _ ha)), ?_, fun a ha => ?_, s.g0.trans h1, h2, s.h0.trans h3, fun a u e => ?_, fun q hq => ?_⟩
  · rw [List.append_assoc]
    refine List.nodup_append.mpr ⟨h5, s.nd, fun a ha b hb e => ?_⟩
    subst e
    obtain ⟨u, e, _⟩ := all a hb
    rw [(h6 a ha).2] at e; cases e
  · rw [List.append_assoc] at ha
    rcases List.mem_append.mp ha with ha | ha
    · exact ⟨(h6 a ha).1, Same.none s.h0 (h6 a ha).2⟩
    · refine ⟨?_, (s.fr a ha).2⟩
      cases q : G' a with
      | none => rfl
      | some u =>
        obtain ⟨u', e, ne⟩ := all a ha
        rcases h7 a u q with z | z | z
        · exact absurd (s.fr a ha).1 z
        · rw [z] at e; cases e
        · have := h2 a u q
          rw [h3 a u' e] at this
          cases this
          exact absurd z ne
  · rcases h7 a u e with z | z | z
    · cases q : G a with
      | none => exact absurd q z
      | some u' =>
        have := h1 a u' q
        rw [e] at this; cases this
        exact s.nw a u q
    · exact .inr (.inl (Same.none s.h0 z))
    · exact .inr (.inr z)
  · obtain ⟨o', h⟩ := s.vw q hq
    refine ⟨o', h.mono h1 _ fun a ha => ?_⟩
    obtain ⟨u, e, _⟩ := h.there _ a ha
    rw [e, h3 a u e]
theorem ev_call {K : KW} {n : Nat} {φ : List D → Option T} {ta : TA} {fa : AF} (hφ : ∀ ds t, φ ds = some t → ds.length = n) (ha : EvA K ta fa) : EvT K (tCall (spD n φ K) [] E0 ta) (eCall φ fa) := by
  intro G0 H0 W H ts vs env σ t env' S g Q q
  obtain ⟨⟨us, e1⟩, g1, g2⟩ := obind g
  obtain ⟨ds, g3, g4⟩ := obind g2
  obtain ⟨t', g5, g6⟩ := omap g4
  cases g6
  have eu := allP_eq g3
  have eu : us = ds.map T.p := eu
  subst eu
  refine ha _ _ _ _ _ _ _ _ _ _ S g1 _ fun ws H1 s1 hl S1 => ?_
  obtain ⟨G, ot, oe, s⟩ := S1
  obtain ⟨o1, o2, k1, k2, k3⟩ := s.tmp.split hl
  obtain ⟨k4, k5⟩ := rpDs_of k1
  subst k5
  have k3 : ot = o2 := k3
  subst k3
  have s' : St0 K G0 H0 W G H1 ts vs _ σ ot oe := ⟨k2, s.env, s.nd, s.fr, s.g0, s.gh, s.h0, s.nw, s.vw⟩
  refine ⟨ds, t, G, hφ _ _ g5, g5, s.gh, by rw [List.append_nil]; exact k4, fun v G' H' o h1 h2 h3 h4 h5 h6 h7 => ?_⟩
  exact q v H' (s1.trans h3) (OkS.called s' h1 h2 h3 h4 h5 h6 h7)
theorem runF_len {n k : Nat} {F : SF} {ds : List D} {t : T} (h : runF n k F ds = some t) : ds.length = k := by
  unfold runF at h
  by_cases hl : ds.length = k
  · exact hl
  · rw [if_neg hl] at h; cases h
section
variable {X : Cx} {k : Nat} {f : Addr} {fd : FuncData} {ps : List Str} {n : Nat} {φ : List D → Option T} {x : Str} {p pos : Pos} {e : Expr} {es : List Expr} {ta : TA} {fa : AF}
theorem dt_call (hφ : ∀ ds t, φ ds = some t → ds.length = n) (F : FnOk X.prog X.w X.K X.mg X.base CX0 k f fd ps (spD n φ X.kw)) (hr : Room k X.A) (hg : Gl X x) (hm : X.mg x = some (.ref f)) (hk : PySem.W.keepIn X.K (.ref f) = true) (hb : Binds X.K fd ps [])
    (ha : DA X (e :: es) ta fa) (hdb : (x == ("__debug__" : Str)) = false := by decide) (he : starEach (e :: es) X.env = (false, eval e X.env) :: starEach es X.env := by rfl) (hpl : (backTo pos (starEach es X.env)).any (·.1) = false := by rfl) :
    DT X (.Call (.Name x p) (e :: es) [] pos) (tCall (spD n φ X.kw) [] E0 ta) (eCall φ fa) := ⟨pe_call F hr hg hm hk hb .nil pass0 ha.pa hdb he hpl, ev_call hφ ha.ok⟩
end
end DL
namespace DL
open PySem PySem.Spec PyProof.Rows L2
def toV : D → Option V
  | .non => some .non
  | .bl b => some (.bl b)
  | .int i => some (.int i)
  | .str s => some (.str s)
  | _ => none
mutual
def toPy : D → Option PyData
  | .non => some .none
  | .bl b => some (.bool b)
  | .int i => some (.int i)
  | .str s => some (.str s)
  | .lst ds => (toPys ds).map .list
  | .tup ds => (toPys ds).map .tuple
  | .tux ds => (toPys ds).map .tuple
  | .dic _ => none
  | _ => none
def toPys : List D → Option (List PyData)
  | [] => some []
  | d :: ds => (toPy d).bind fun p => (toPys ds).map (p :: ·)
end
theorem toV_rp {K : KW} {G : Hp} {d : D} {v w : V} (h : toV d = some v) (r : RpD K G d w) : w = v := by
  cases d <;> simp only [toV, Option.some.injEq, reduceCtorEq] at h
  all_goals (subst h; exact r)
mutual
theorem toPy_rp {K : KW} {G : Hp} : ∀ {d : D} {p : PyData} {v : V}, toPy d = some p → RpD K G d v → Dp K G v p
  | .non, p, v, h, r => by cases h; rw [show v = _ from r]; exact .non
  | .bl _, p, v, h, r => by cases h; rw [show v = _ from r]; exact .bl _
  | .int _, p, v, h, r => by cases h; rw [show v = _ from r]; exact .int _
  | .str _, p, v, h, r => by cases h; rw [show v = _ from r]; exact .str _
  | .lst ds, p, v, h, ⟨a, vs, h1, h2, h3⟩ => by
    obtain ⟨q, g1, g2⟩ := omap (show (toPys ds).map PyData.list = some p from h)
    subst g2; subst h1
    exact .lst (.inl h2) (toPys_rp g1 h3)
  | .tup ds, p, v, h, ⟨a, vs, h1, h2, h3⟩ => by
    obtain ⟨q, g1, g2⟩ := omap (show (toPys ds).map PyData.tuple = some p from h)
    subst g2; subst h1
    exact .tup (tup_sq h2) (toPys_rp g1 h3)
  | .dic _, p, v, h, r => by cases h
  | .dit _, p, v, h, r => by cases h
  | .obj _ _, p, v, h, r => by cases h
  | .al _, p, v, h, r => by cases h
  | .din _, p, v, h, r => by cases h
  | .tux ds, p, v, h, ⟨a, o, vs, h1, h2, h4, h3⟩ => by
    obtain ⟨q, g1, g2⟩ := omap (show (toPys ds).map PyData.tuple = some p from h)
    subst g2; subst h1
    exact .tup (.inl (.inr ⟨o, h2⟩)) (toPys_rp g1 h3)
theorem toPys_rp {K : KW} {G : Hp} : ∀ {ds : List D} {ps : List PyData} {vs : List V}, toPys ds = some ps → RpDs K G ds vs → DpAll K G vs ps
  | [], ps, vs, h, r => by cases h; rw [show vs = [] from r]; exact .nil
  | d :: ds, ps, vs, h, ⟨v, r, h1, h2, h3⟩ => by
    obtain ⟨p, g1, g2⟩ := obind (show (toPy d).bind (fun p => (toPys ds).map (p :: ·)) = some ps from h)
    obtain ⟨qs, g3, g4⟩ := omap g2
    subst g4; subst h1
    exact .cons (toPy_rp g1 h2) (toPys_rp g3 h3)
end
def eqDeep (a b : D) : Option Bool := (toPy a).bind fun p => (toPy b).bind fun q => if SeqAt.shaped p && SeqAt.shaped q then some (PyData.eqv p q) else none
def eqQ (a b : D) : Option Bool := match toV a, toV b with
  | some v, some w => if scal v w then some (decide (v = w)) else none
  | _, _ => eqDeep a b
def rEqA (K : PySem.W.Frag) : R2 := fun x y H Q => rEq x y H Q ∨ rEqD K x y H Q
def rNeA (K : PySem.W.Frag) : R2 := fun x y H Q => rNe x y H Q ∨ rNeD K x y H Q
theorem OpR.or {X : Cx} {f : Value → Value → Sem Value} {r r' : R2} (h : OpR X f r) (h' : OpR X f r') : OpR X f (fun x y H Q => r x y H Q ∨ r' x y H Q) := by
  intro pins s σ H x y v u Q I rx ry q
  rcases q with q | q
  · exact h pins s σ H x y v u Q I rx ry q
  · exact h' pins s σ H x y v u Q I rx ry q
theorem op_eqA {X : Cx} (hu : X.A.units + 64 < cLine) : OpR X (compareOp .Eq) (rEqA X.K) := OpR.or op_eq (op_eqD hu)
theorem op_neA {X : Cx} (hu : X.A.units + 64 < cLine) : OpR X (compareOp .NotEq) (rNeA X.K) := OpR.or op_ne (op_neD hu)
theorem eqQ_r {K : KW} {H : Hp} {a b : D} {c : Bool} {v w : V} {Q : VK} (h : eqQ a b = some c) (ha : RpD K H a v) (hb : RpD K H b w) (q : Q (.bl c) H) : rEqA K v w H Q := by
  have deep : eqDeep a b = some c → rEqA K v w H Q := fun h => by
    obtain ⟨p, h1, h2⟩ := obind h
    obtain ⟨p', h3, h4⟩ := obind h2
    by_cases hs : (SeqAt.shaped p && SeqAt.shaped p') = true
    · rw [if_pos hs] at h4
      cases h4
      rw [Bool.and_eq_true] at hs
      exact .inr ⟨p, p', toPy_rp h1 ha, toPy_rp h3 hb, hs.1, hs.2, q⟩
    · rw [if_neg hs] at h4; cases h4
  unfold eqQ at h
  split at h
  · rename_i v' w' e1 e2
    rw [toV_rp e1 ha, toV_rp e2 hb]
    by_cases hs : scal v' w' = true
    · rw [if_pos hs] at h; cases h; exact .inl ⟨hs, q⟩
    · rw [if_neg hs] at h; cases h
  · exact deep h
theorem neQ_r {K : KW} {H : Hp} {a b : D} {c : Bool} {v w : V} {Q : VK} (h : eqQ a b = some c) (ha : RpD K H a v) (hb : RpD K H b w) (q : Q (.bl (!c)) H) : rNeA K v w H Q := by
  have deep : eqDeep a b = some c → rNeA K v w H Q := fun h => by
    obtain ⟨p, h1, h2⟩ := obind h
    obtain ⟨p', h3, h4⟩ := obind h2
    by_cases hs : (SeqAt.shaped p && SeqAt.shaped p') = true
    · rw [if_pos hs] at h4
      cases h4
      rw [Bool.and_eq_true] at hs
      exact .inr ⟨p, p', toPy_rp h1 ha, toPy_rp h3 hb, hs.1, hs.2, q⟩
    · rw [if_neg hs] at h4; cases h4
  unfold eqQ at h
  split at h
  · rename_i v' w' e1 e2
    rw [toV_rp e1 ha, toV_rp e2 hb]
    by_cases hs : scal v' w' = true
    · rw [if_pos hs] at h; cases h; exact .inl ⟨hs, q⟩
    · rw [if_neg hs] at h; cases h
  · exact deep h
def eCmp (g : D → D → Option Bool) (fa fb : EF) : EF := fun env => (fa env).bind fun x => (fb x.2).bind fun y => (g x.1.toD y.1.toD).map fun c => (.p (.bl c), y.2)
def Cm2 (r : PySem.W.Frag → R2) (g : D → D → Option Bool) : Prop := ∀ (K : KW) (H : Hp) (a b : D) (c : Bool) (v w : V) (Q : VK), g a b = some c → RpD K H a v → RpD K H b w → Q (.bl c) H → r K v w H Q
theorem ev_cmp {K : KW} {r : PySem.W.Frag → R2} {g : D → D → Option Bool} {ta tb : TE} {fa fb : EF} (hr : Cm2 r g) (ha : EvV K ta fa) (hb : EvV K tb fb) : EvT K (tOp (r K) ta tb) (eCmp g fa fb) := by
  intro G0 H0 W H ts vs env σ t env' S e Q q
  obtain ⟨⟨x, e1⟩, h1, h2⟩ := obind e
  obtain ⟨⟨y, e2⟩, h3, h4⟩ := obind h2
  obtain ⟨c, h5, h6⟩ := omap h4
  cases h6
  refine ha _ _ _ _ _ _ _ _ _ _ S h1 _ fun v H1 s1 S1 => ?_
  refine hb _ _ _ _ _ _ _ _ _ _ S1 h3 _ fun w H2 s2 S2 => ?_
  exact hr K H2 _ _ c v w Q h5 (S2.see (q := (x, v)) (by simp)) (S2.see (q := (y, w)) (by simp)) (q _ H2 (s1.trans s2) (S2.unview.unview.scal fun _ => rfl))
theorem cm_eq : Cm2 rEqA eqQ := fun K H a b c v w Q h ha hb q => eqQ_r h ha hb q
def neQ (a b : D) : Option Bool := (eqQ a b).map (!·)
theorem cm_ne : Cm2 rNeA neQ := fun K H a b c v w Q h ha hb q => by
  obtain ⟨c', h1, h2⟩ := omap h
  subst h2
  exact neQ_r h1 ha hb q
def cmI (f : Int → Int → Bool) : D → D → Option Bool
  | .int i, .int j => some (f i j)
  | _, _ => none
theorem cm_int {f : Int → Int → Bool} : Cm2 (fun _ => rI0 fun i j => .bl (f i j)) (cmI f) := fun K H a b c v w Q h ha hb q => by
  unfold cmI at h
  split at h
  · rename_i i j
    cases h
    exact ⟨i, j, ha, hb, q⟩
  · cases h
def D.isNon : D → Bool
  | .non => true
  | _ => false
def D.isAl : D → Bool
  | .al _ => true
  | .din _ => true
  | _ => false
theorem rp_non {K : KW} {G : Hp} {d : D} {v : V} (hd : d.isAl = false) (r : RpD K G d v) : decide (v = .non) = d.isNon := by
  cases d with
  | non => rw [show v = _ from r]; rfl
  | bl b => rw [show v = _ from r]; rfl
  | int b => rw [show v = _ from r]; rfl
  | str b => rw [show v = _ from r]; rfl
  | lst b => obtain ⟨a, vs, h, _⟩ := r; rw [h]; rfl
  | tup b => obtain ⟨a, vs, h, _⟩ := r; rw [h]; rfl
  | dic b => obtain ⟨a, vs, h, _⟩ := r; rw [h]; rfl
  | dit b => obtain ⟨a, vs, h, _⟩ := r; rw [h]; rfl
  | obj n b => obtain ⟨a, C, dx, vs, h, _⟩ := r; rw [h]; rfl
  | al a => cases hd
  | din a => cases hd
  | tux b => obtain ⟨a, o, vs, h, _⟩ := r; rw [h]; rfl
def isN (a b : D) : Option Bool := match b with | .non => if a.isAl = true then none else some a.isNon | _ => none
theorem isN_some {a b : D} {c : Bool} (h : isN a b = some c) : b = .non ∧ a.isAl = false ∧ c = a.isNon := by
  cases b <;> simp only [isN, reduceCtorEq] at h
  by_cases q : a.isAl = true
  · rw [if_pos q] at h; cases h
  · rw [if_neg q] at h; cases h; exact ⟨rfl, by simpa using q, rfl⟩
def rIsA (_ : PySem.W.Frag) : R2 := fun x y H Q => y = .non ∧ Q (.bl (decide (x = .non))) H
theorem op_isA {X : Cx} : OpR X (compareOp .Is) (rIsA X.K) := op_isN
theorem cm_is : Cm2 rIsA isN := fun K H a b c v w Q h ha hb q => by
  obtain ⟨rfl, h1, rfl⟩ := isN_some h
  exact ⟨hb, by rw [rp_non h1 ha]; exact q⟩
def toVs : List D → Option (List V)
  | [] => some []
  | d :: ds => (toV d).bind fun v => (toVs ds).map (v :: ·)
def inFlat (a : D) (ds : List D) : Option Bool := (toV a).bind fun v => (toVs ds).bind fun vs => if flatV v && vs.all flatV then some (inV v vs) else none
def inStr (a b : Str) : Bool := match a.cps.toList with
  | [c] => decide (c ∈ b.cps.toList)
  | _ => !(Builtin.Str.occurrences b a 0 b.length 1).isEmpty
def inQ (a b : D) : Option Bool := match a, b with
  | .str s, .str t => some (inStr s t)
  | a, .lst ds => inFlat a ds
  | a, .tup ds => inFlat a ds
  | _, _ => none
def notInQ (a b : D) : Option Bool := (inQ a b).map (!·)
def cT (f : EF) : CF := fun env => (f env).bind fun r => match r.1 with | .p (.bl b) => some (b, r.2) | _ => none
theorem EvT.test {K : KW} {te : TE} {f : EF} (h : EvT K te f) : EvC K (tTest te) (cT f) := by
  intro G0 H0 W H ts vs env σ c env' S e Q q
  obtain ⟨⟨t, e1⟩, h1, h2⟩ := obind e
  cases t with
  | p d =>
    cases d with
    | bl b =>
      cases h2
      exact h _ _ _ _ _ _ _ _ _ _ S h1 _ fun v H' s S' => ⟨c, S'.top, q H' s S'.pop⟩
    | _ => cases h2
  | _ => cases h2
def cNot (c : CF) : CF := fun env => (c env).map fun r => (!r.1, r.2)
def cAnd (c d : CF) : CF := fun env => (c env).bind fun r => if r.1 then d r.2 else some (false, r.2)
def cOr (c d : CF) : CF := fun env => (c env).bind fun r => if r.1 then some (true, r.2) else d r.2
structure DW (X : Cx) (e : Expr) (tc : TT) (f : CF) : Prop where
  pt : PW X e tc
  ok : EvC X.kw tc f
def eIf (c : CF) (fa fb : EF) : EF := fun env => (c env).bind fun r => if r.1 then fa r.2 else fb r.2
section
variable {X : Cx} {a b e : Expr} {es rest : List Expr} {ta tb te : TE} {tc td : TT} {fa fb f : EF} {c d : CF} {pos : Pos}
theorem dc_val (h : DT X e te f) (he : ∀ whole, isTrue e X.env whole = (do let v ← whole; standAt e.pos; holding [v] (truthy v)) := by intro _; rfl) : DC X e (tB te) (cT f) := ⟨pt_val h.pe he, h.ok.test⟩
theorem dt_cmp {op : CmpOp} {r : PySem.W.Frag → R2} {g : D → D → Option Bool} (ho : OpR X (compareOp op) (r X.K)) (hr : Cm2 r g) (ha : DV X a ta fa) (hb : DV X b tb fb) (hm : behindInMarks op b = false) : DT X (.Compare a [op] [b] pos) (tOp (r X.K) ta tb) (eCmp g fa fb) := ⟨pe_cmpR ho ha.pe hb.pe hm, ev_cmp hr ha.ok hb.ok⟩
theorem dc_cmp {op : CmpOp} {r : PySem.W.Frag → R2} {g : D → D → Option Bool} (ho : OpR X (compareOp op) (r X.K)) (hr : Cm2 r g) (ha : DV X a ta fa) (hb : DV X b tb fb) (hm : behindInMarks op b = false) : DC X (.Compare a [op] [b] pos) (tTest (tOp (r X.K) ta tb)) (cT (eCmp g fa fb)) := ⟨pt_cmpR ho ha.pe hb.pe hm, (ev_cmp hr ha.ok hb.ok).test⟩
theorem dc_not (h : DC X a tc c) : DC X (.UnaryOp .Not a pos) (tNot tc) (cNot c) := by
  refine ⟨pt_not h.pt, ?_⟩
  intro G0 H0 W H ts vs env σ k env' S e Q q
  obtain ⟨⟨b, e1⟩, h1, h2⟩ := omap e
  cases h2
  exact h.ok _ _ _ _ _ _ _ _ _ _ S h1 _ fun H' s S' => q H' s S'
theorem dw_and1 (h : DC X a tc c) : DW X (.BoolOp .And [a] pos) tc c := ⟨pw_and1 h.pt, h.ok⟩
theorem dw_or1 (h : DC X a tc c) : DW X (.BoolOp .Or [a] pos) tc c := ⟨pw_or1 h.pt, h.ok⟩
theorem dw_and (h : DC X a tc c) (h2 : DW X (.BoolOp .And (b :: rest) pos) td d) : DW X (.BoolOp .And (a :: b :: rest) pos) (tAnd tc td) (cAnd c d) := by
  refine ⟨pw_and h.pt h2.pt, ?_⟩
  intro G0 H0 W H ts vs env σ k env' S e Q q
  obtain ⟨⟨b, e1⟩, g1, g2⟩ := obind e
  refine h.ok _ _ _ _ _ _ _ _ _ _ S g1 _ fun H' s S' => ?_
  cases b with
  | true => rw [if_pos rfl]; exact h2.ok _ _ _ _ _ _ _ _ _ _ S' g2 _ fun H2 s2 S2 => q H2 (s.trans s2) S2
  | false => rw [if_neg Bool.false_ne_true]; cases g2; exact q H' s S'
theorem dw_or (h : DC X a tc c) (h2 : DW X (.BoolOp .Or (b :: rest) pos) td d) : DW X (.BoolOp .Or (a :: b :: rest) pos) (tOr tc td) (cOr c d) := by
  refine ⟨pw_or h.pt h2.pt, ?_⟩
  intro G0 H0 W H ts vs env σ k env' S e Q q
  obtain ⟨⟨b, e1⟩, g1, g2⟩ := obind e
  refine h.ok _ _ _ _ _ _ _ _ _ _ S g1 _ fun H' s S' => ?_
  cases b with
  | true => rw [if_pos rfl]; cases g2; exact q H' s S'
  | false => rw [if_neg Bool.false_ne_true]; exact h2.ok _ _ _ _ _ _ _ _ _ _ S' g2 _ fun H2 s2 S2 => q H2 (s.trans s2) S2
theorem DW.dc (h : DW X e tc c) : DC X e tc c := ⟨h.pt.pt, h.ok⟩
def eAnd (fa fb : EF) : EF := fun env => (cT fa env).bind fun r => if r.1 then fb r.2 else some (.p (.bl false), r.2)
def eOr (fa fb : EF) : EF := fun env => (cT fa env).bind fun r => if r.1 then some (.p (.bl true), r.2) else fb r.2
def eNot (fa : EF) : EF := fun env => (cT fa env).map fun r => (.p (.bl (!r.1)), r.2)
theorem dt_one {op} {t : TE} (h : DT X a t fa) : DT X (.BoolOp op [a] pos) t fa := ⟨pe_one h.pe, h.ok⟩
theorem dt_and (h : DT X a ta fa) (h2 : DT X (.BoolOp .And (b :: rest) pos) tb fb) : DT X (.BoolOp .And (a :: b :: rest) pos) (tAndV ta tb) (eAnd fa fb) := by
  refine ⟨pe_and h.pe h2.pe, ?_⟩
  intro G0 H0 W H ts vs env σ k env' S e Q q
  obtain ⟨⟨b, e1⟩, g1, g2⟩ := obind e
  have t1 := h.ok.test _ _ _ _ _ _ _ _ _ _ S g1 (fun b H' => if b = true then tb σ H' Q else Q (.bl false) H') fun H' s S' => by
    cases b with
    | true => rw [if_pos rfl]; exact h2.ok _ _ _ _ _ _ _ _ _ _ S' g2 _ fun v H2 s2 S2 => q v H2 (s.trans s2) S2
    | false => rw [if_neg Bool.false_ne_true]; cases g2; exact q _ H' s (S'.scal fun _ => rfl)
  exact t1
theorem dt_not (h : DT X a ta fa) : DT X (.UnaryOp .Not a pos) (tNotV ta) (eNot fa) := by
  refine ⟨pe_not h.pe, ?_⟩
  intro G0 H0 W H ts vs env σ k env' S e Q q
  obtain ⟨⟨b, e1⟩, g1, g2⟩ := omap e
  cases g2
  have t1 := h.ok.test _ _ _ _ _ _ _ _ _ _ S g1 (fun b H' => Q (.bl (!b)) H') fun H' s S' => q _ H' s (S'.scal fun _ => rfl)
  exact t1
def eChain (f g : Int → Int → Bool) (fa fb fc : EF) : EF := fun env => (fa env).bind fun x => (fb x.2).bind fun y => match x.1, y.1 with
  | .p (.int i), .p (.int j) => if f i j then (fc y.2).bind fun z => match z.1 with | .p (.int k) => some (.p (.bl (g j k)), z.2) | _ => none
    else some (.p (.bl false), y.2)
  | _, _ => none
end
end DL
namespace DL
open PySem PySem.Spec PyProof.Rows L2
def itemsT : T → Option (List D)
  | .p (.lst ds) => some ds
  | .p (.tup ds) => some ds
  | .lst ts => allP ts
  | .tup ts => allP ts
  | _ => none
def isLT : T → Bool
  | .p (.lst _) => true
  | .lst _ => true
  | _ => false
section
variable {K : KW} {G0 H0 H : Hp} {W : List (T × V)} {ts : List T} {vs : List V} {env : Env} {σ : St} {t : T} {v : V}
theorem OkS.pushD {G : Hp} {ot oe : List Addr} : ∀ {ds : List D} {xs : List V}, St0 K G0 H0 W G H ts vs env σ ot oe → RpDs K G ds xs → OkS K G0 H0 W H (ds.map T.p ++ ts) (xs ++ vs) env σ := fun {ds xs} s h =>
  ⟨G, ot, oe, (rpTs_p h).append s.tmp, s.env, s.nd, s.fr, s.g0, s.gh, s.h0, s.nw, s.vw⟩
theorem OkS.items {ds : List D} (S : OkS K G0 H0 ((t, v) :: W) H ts vs env σ) (h : itemsT t = some ds) :
    ∃ a xs, v = .ref a ∧ (isLT t = true → SqL K H a xs) ∧ (isLT t = false → SqT K H a xs) ∧ xs.length = ds.length ∧ OkS K G0 H0 W H (ds.map T.p ++ ts) (xs ++ vs) env σ := by
  obtain ⟨G, ot, oe, s⟩ := S
  obtain ⟨o, r⟩ := s.vw (t, v) (by simp)
  have s' : St0 K G0 H0 W G H ts vs env σ ot oe := ⟨s.tmp, s.env, s.nd, s.fr, s.g0, s.gh, s.h0, s.nw, fun q hq => s.vw q (List.mem_cons_of_mem _ hq)⟩
  cases t with
  | p d =>
    cases d with
    | lst ds' =>
      cases h
      obtain ⟨⟨a, xs, e1, e2, e3⟩, _⟩ := r
      exact ⟨a, xs, e1, fun _ => s.gh.seq (.inl e2), (fun z => by cases z), e3.len, OkS.pushD s' e3⟩
    | tup ds' =>
      cases h
      obtain ⟨⟨a, xs, e1, e2, e3⟩, _⟩ := r
      exact ⟨a, xs, e1, (fun z => by cases z), fun _ => tup_seq s.gh e2, e3.len, OkS.pushD s' e3⟩
    | _ => cases h
  | lst us =>
    have e := allP_eq (show allP us = some ds from h)
    subst e
    obtain ⟨a, xs, o', e1, e2, e3, e4⟩ := r
    obtain ⟨k1, k2⟩ := rpDs_of e3
    exact ⟨a, xs, e1, fun _ => .inl (.inl e2), (fun z => by cases z), k1.len, OkS.pushD s' k1⟩
  | tup us =>
    have e := allP_eq (show allP us = some ds from h)
    subst e
    obtain ⟨a, xs, e1, e2, e3⟩ := r
    obtain ⟨k1, k2⟩ := rpDs_of e3
    exact ⟨a, xs, e1, (fun z => by cases z), fun _ => tup_seq s.gh e2, k1.len, OkS.pushD s' k1⟩
  | dic _ => cases h
  | dit _ => cases h
  | obj _ _ => cases h
  | box _ _ => cases h
  | al _ => cases h
  | din _ => cases h
end
def lenD : D → Option Int
  | .lst ds => some ds.length
  | .tup ds => some ds.length
  | .tux ds => some ds.length
  | .str s => if s.length ≤ 16777216 then some s.length else none
  | .dic kvs => none
  | _ => none
def lenT : T → Option Int
  | .p d => lenD d
  | .lst ts => some ts.length
  | .tup ts => some ts.length
  | .dic ts => none
  | _ => none
theorem toDs_length : ∀ ts : List T, (T.toDs ts).length = ts.length
  | [] => rfl
  | t :: ts => by rw [T.toDs, List.length_cons, toDs_length ts, List.length_cons]
theorem lenT_D {t : T} {n : Int} (h : lenT t = some n) : lenD t.toD = some n := by
  cases t with
  | p d => exact h
  | lst ts => rw [← h]; show some ((T.toDs ts).length : Int) = some (ts.length : Int); rw [toDs_length]
  | tup ts => rw [← h]; show some ((T.toDs ts).length : Int) = some (ts.length : Int); rw [toDs_length]
  | dic _ => cases h
  | dit _ => cases h
  | obj _ _ => cases h
  | box _ _ => cases h
  | al _ => cases h
  | din _ => cases h
def eB1 (g : T → Option D) (f : EF) : EF := fun env => (f env).bind fun r => (g r.1).map fun d => (.p d, r.2)
def Bi1 (r : PySem.W.Frag → List V → Hp → VK → Prop) (g : T → Option D) : Prop := ∀ (K : KW) (H : Hp) (t : T) (d : D) (v : V) (Q : VK), g t = some d → RpD K H t.toD v → (∀ u, (∀ G, RpD K G d u) → Q u H) → r K [v] H Q
theorem ev_b1 {K : KW} {r : PySem.W.Frag → List V → Hp → VK → Prop} {g : T → Option D} {te : TE} {f : EF} (hr : Bi1 r g) (h : EvV K te f) : EvT K (tCB (r K) (tCons te tNil)) (eB1 g f) := by
  intro G0 H0 W H ts vs env σ t env' S e Q q
  obtain ⟨⟨x, e1⟩, h1, h2⟩ := obind e
  obtain ⟨d, h3, h4⟩ := omap h2
  cases h4
  refine h _ _ _ _ _ _ _ _ _ _ S h1 _ fun v H1 s1 S1 => ?_
  exact hr K H1 x d v Q h3 (S1.see (q := (x, v)) (by simp)) fun u hu => q u H1 s1 (S1.unview.scal hu)
section
variable {X : Cx} {e a b : Expr} {te ta tb : TE} {f fa fb : EF} {p pos : Pos} {x : Str}
theorem dt_b1 {id : String} {r : PySem.W.Frag → List V → Hp → VK → Prop} {g : T → Option D} (hc : CallR X (.builtin id) (r X.K)) (hr : Bi1 r g) (hg : Gl X x) (hm : X.mg x = none) (hv : bootBuiltins x = some (.builtin id)) (h : DV X e te f)
    (hs : starEach [e] X.env = (false, eval e X.env) :: starEach [] X.env := by rfl) (hn : x ≠ "__name__" := by decide) (hdb : (x == ("__debug__" : Str)) = false := by decide) : DT X (.Call (.Name x p) [e] [] pos) (tCB (r X.K) (tCons te tNil)) (eB1 g f) :=
  ⟨pe_callB hc hg hm hv (pa_cons h.pe pa_nil hs) hn hdb hs, ev_b1 hr h.ok⟩
end
def rLenA (K : PySem.W.Frag) : List V → Hp → VK → Prop := fun xs H Q => (∃ p ys, xs = [.ref p] ∧ (SqL K H p ys ∨ SqT K H p ys) ∧ Q (.int ys.length) H) ∨ ∃ z, xs = [.str z] ∧ z.length ≤ sizeLine ∧ Q (.int z.length) H
theorem call_lenA {X : Cx} : CallR X (.builtin "len") (rLenA X.K) := call_len_seq.or call_len_str
def gLen (t : T) : Option D := (lenT t).map D.int
theorem bi_len : Bi1 rLenA gLen := by
  intro K H t d v Q h r q
  obtain ⟨n, h1, h2⟩ := omap h
  subst h2
  have h3 := lenT_D h1
  cases hd : t.toD with
  | lst ds =>
    rw [hd] at h3 r
    obtain ⟨a, xs, e1, e2, e3⟩ := r
    cases h3
    exact .inl ⟨a, xs, by rw [e1], .inl (.inl e2), by rw [e3.len]; exact q _ fun _ => rfl⟩
  | tup ds =>
    rw [hd] at h3 r
    obtain ⟨a, xs, e1, e2, e3⟩ := r
    cases h3
    exact .inl ⟨a, xs, by rw [e1], .inr (tup_sq e2), by rw [e3.len]; exact q _ fun _ => rfl⟩
  | str s =>
    rw [hd] at h3 r
    have h3 : (if s.length ≤ 16777216 then some (s.length : Int) else none) = some n := h3
    by_cases hs : s.length ≤ 16777216
    · rw [if_pos hs] at h3
      cases h3
      exact .inr ⟨s, by rw [show v = _ from r], by rw [sizeLine_eq]; exact hs, q _ fun _ => rfl⟩
    · rw [if_neg hs] at h3; cases h3
  | non => rw [hd] at h3; cases h3
  | bl _ => rw [hd] at h3; cases h3
  | int _ => rw [hd] at h3; cases h3
  | dic _ => rw [hd] at h3; cases h3
  | dit _ => rw [hd] at h3; cases h3
  | obj _ _ => rw [hd] at h3; cases h3
  | al _ => rw [hd] at h3; cases h3
  | din _ => rw [hd] at h3; cases h3
  | tux ds =>
    rw [hd] at h3 r
    obtain ⟨a, o, xs, e1, e2, e4, e3⟩ := r
    cases h3
    exact .inl ⟨a, xs, by rw [e1], .inr (.inl (.inr ⟨o, e2⟩)), by rw [e3.len]; exact q _ fun _ => rfl⟩
def intsD : List D → Option (List Int)
  | [] => some []
  | .int i :: r => (intsD r).map (i :: ·)
  | _ => none
theorem intsD_eq : ∀ {ds : List D} {ns : List Int}, intsD ds = some ns → ds = ns.map D.int
  | [], ns, h => by cases h; rfl
  | .int i :: r, ns, h => by
    obtain ⟨ms, h1, h2⟩ := omap (show (intsD r).map (i :: ·) = some ns from h)
    subst h2
    rw [intsD_eq h1]; rfl
  | .non :: _, _, h => by cases h
  | .bl _ :: _, _, h => by cases h
  | .str _ :: _, _, h => by cases h
  | .lst _ :: _, _, h => by cases h
  | .tup _ :: _, _, h => by cases h
  | .dic _ :: _, _, h => by cases h
  | .dit _ :: _, _, h => by cases h
  | .obj _ _ :: _, _, h => by cases h
  | .al _ :: _, _, h => by cases h
  | .din _ :: _, _, h => by cases h
  | .tux _ :: _, _, h => by cases h
@[simp] theorem intsD_map : ∀ ns : List Int, intsD (ns.map D.int) = some ns
  | [] => rfl
  | n :: ns => by show (intsD (ns.map D.int)).map (n :: ·) = _; rw [intsD_map ns]; rfl
theorem rpDs_ints {K : KW} {G : Hp} : ∀ {ns : List Int} {vs : List V}, RpDs K G (ns.map D.int) vs → vs = ns.map V.int
  | [], vs, h => h
  | n :: ns, vs, ⟨v, r, h1, h2, h3⟩ => by rw [h1, show v = _ from h2, rpDs_ints h3]; rfl
def listD : D → Option (List D)
  | .lst ds => some ds
  | _ => none
def gSum (t : T) : Option D := (listD t.toD).bind fun ds => (intsD ds).map fun ns => .int ns.sum
theorem bi_sum : Bi1 rSum gSum := by
  intro K H t d v Q h r q
  obtain ⟨ds, h1, h2⟩ := obind h
  obtain ⟨ns, h3, h4⟩ := omap h2
  subst h4
  cases hd : t.toD <;> rw [hd] at h1 <;> cases h1
  rw [hd] at r
  obtain ⟨a, xs, e1, e2, e3⟩ := r
  rw [intsD_eq h3] at e3
  rw [rpDs_ints e3] at e2
  exact ⟨a, ns, by rw [e1], .inl e2, q _ fun _ => rfl⟩
def eI2 (g : Int → Int → Int) (fr : AF) : EF := fun env => (fr env).bind fun r => match r.1 with
  | [.p (.int i), .p (.int j)] => some (.p (.int (g i j)), r.2)
  | _ => none
section
variable {X : Cx} {e a b : Expr} {es : List Expr} {ta : TA} {fr : AF} {p pos : Pos} {x : Str}
end
def maxI (i j : Int) : Int := if j > i then j else i
def minI (i j : Int) : Int := if j < i then j else i
def gStr : T → Option D
  | .p (.str s) => some (.str s)
  | .p (.int i) => if i.natAbs < 1606938044258990275541962092341162602522202993782792835301376 then some (.str (toString i)) else none
  | _ => none
def tyD : D → String
  | .non => "NoneType" | .bl _ => "bool" | .int _ => "int" | .str _ => "str" | .lst _ => "list" | .tup _ => "tuple" | .dic _ => "dict" | .tux _ => "tuple" | _ => "dict"
def tyOk : D → Bool
  | .obj _ _ => false
  | .al _ => false
  | .din _ => false
  | .dit _ => false
  | .dic _ => false
  | _ => true
theorem tyD_x {K : KW} {H : Hp} {d : D} {v : V} (r : RpD K H d v) (hok : tyOk d = true) : TyX K H v (.type (tyD d)) := by
  cases d with
  | non => rw [show v = _ from r]; exact .base .non
  | bl b => rw [show v = _ from r]; exact .base (.bl b)
  | int i => rw [show v = _ from r]; exact .base (.int i)
  | str s => rw [show v = _ from r]; exact .base (.str s)
  | lst ds =>
    obtain ⟨a, xs, rfl, h, _⟩ := r
    rcases h with h | ⟨o, h⟩
    · exact .base (.lst h)
    · exact .base (.frz h)
  | tup ds =>
    obtain ⟨a, xs, rfl, h, _⟩ := r
    exact .base (.tup h)
  | tux ds =>
    obtain ⟨a, o, xs, rfl, h, _⟩ := r
    exact .fTuple h
  | dic ds => cases hok
  | dit _ => cases hok
  | obj _ _ => cases hok
  | al _ => cases hok
  | din _ => cases hok
def eIsi (ty : String) (f : EF) : EF := fun env => (f env).bind fun r => if tyOk r.1.toD = true then (kitB (tyD r.1.toD) ty).map fun b => (.p (.bl b), r.2) else none
theorem dt_isi {X : Cx} {e : Expr} {te : TE} {f : EF} {p pos p2 : Pos} {ty : String} {x : Str} (hg : Gl X "isinstance") (hm : X.mg "isinstance" = none) (h : DV X e te f) (hgT : Gl X x) (hmT : X.mg x = none) (hvT : bootBuiltins x = some (.type ty))
    (hv : bootBuiltins "isinstance" = some (.builtin "isinstance") := by decide +kernel) (hs : starEach [e, .Name x p2] X.env = (false, eval e X.env) :: starEach [.Name x p2] X.env := by rfl) (hs2 : starEach [.Name x p2] X.env = (false, eval (.Name x p2) X.env) :: starEach [] X.env := by rfl) (hn : x ≠ "__name__" := by decide) (hd : (x == ("__debug__" : Str)) = false := by decide) :
    DT X (.Call (.Name "isinstance" p) [e, .Name x p2] [] pos) (tCB (rIsi X.K) (tCons te (tCons (tC (.ty ty)) tNil))) (eIsi ty f) := by
  refine ⟨pe_callB call_isi hg hm hv (pa_cons h.pe (pa_cons (pe_bltn hgT hmT hvT (show RelV (.ty ty) (.type ty) from rfl) hn hd) pa_nil hs2) hs) (by decide) (by decide) hs (by rw [hs2]; rfl), ?_⟩
  intro G0 H0 W H ts vs env σ t env' S e Q q
  obtain ⟨⟨u, e1⟩, h1, h2⟩ := obind e
  have hk : tyOk u.toD = true := by
    by_cases c : tyOk u.toD = true
    · exact c
    · rw [if_neg (show ¬ tyOk (u, e1).1.toD = true from c)] at h2; cases h2
  rw [if_pos (show tyOk (u, e1).1.toD = true from hk)] at h2
  obtain ⟨b, h3, h4⟩ := omap h2
  cases h4
  refine h.ok _ _ _ _ _ _ _ _ _ _ S h1 _ fun v H1 s1 S1 => ?_
  exact ⟨v, .ty ty, _, _, b, rfl, .ty ty, tyD_x (S1.see (q := (u, v)) (by simp)) hk, kit_ty h3, q _ H1 s1 (S1.unview.scal fun _ => rfl)⟩
def eList (f : EF) : EF := fun env => (f env).bind fun r => (itemsT r.1).map fun ds => (.lst (ds.map T.p), r.2)
def eTuple (f : EF) : EF := fun env => (f env).bind fun r => (itemsT r.1).map fun ds => (.p (.tup ds), r.2)
section
variable {X : Cx} {e a b : Expr} {te ta tb : TE} {f fa fb : EF} {p pos : Pos}
theorem dt_list (hg : Gl X "list") (hm : X.mg "list" = none) (h : DV X e te f) (hv : bootBuiltins "list" = some (.type "list") := by decide +kernel) (hs : starEach [e] X.env = (false, eval e X.env) :: starEach [] X.env := by rfl) :
    DT X (.Call (.Name "list" p) [e] [] pos) (tCB (fun xs H Q => ∃ p ys, xs = [.ref p] ∧ (SqL X.K H p ys ∨ SqT X.K H p ys) ∧ ∀ l, H l = none → Q (.ref l) (upd H l (.lst ys))) (tCons te tNil)) (eList f) := by
  refine ⟨pe_callTy call_list_of hg hm hv (pa_cons h.pe pa_nil hs) (by decide) (by decide) hs, ?_⟩
  intro G0 H0 W H ts vs env σ t env' S e Q q
  obtain ⟨⟨u, e1⟩, h1, h2⟩ := obind e
  obtain ⟨ds, h3, h4⟩ := omap h2
  cases h4
  refine h.ok _ _ _ _ _ _ _ _ _ _ S h1 _ fun v H1 s1 S1 => ?_
  obtain ⟨a, xs, rfl, k1, k2, k3, S2⟩ := S1.items h3
  refine ⟨a, xs, rfl, ?_, fun l hl => q _ _ (s1.trans (same_upd hl)) (S2.newL (by rw [List.length_map]; exact k3) hl)⟩
  cases hk : isLT u with
  | true => exact .inl (k1 hk)
  | false => exact .inr (k2 hk)
end
end DL
namespace DL
open PySem PySem.Spec PyProof.Rows L2
def ixT : T → Int → Option T
  | .p (.lst ds), i => (atI ds i).map T.p
  | .p (.tup ds), i => (atI ds i).map T.p
  | .p (.tux ds), i => (atI ds i).map T.p
  | .p (.str z), i => if z.length ≤ 16777216 then (atI z.cps.toList i).map fun c => .p (.str ⟨#[c]⟩) else none
  | .lst ts, i => atI ts i
  | .tup ts, i => atI ts i
  | _, _ => none
section
variable {K : KW} {G0 H0 H G : Hp} {W : List (T × V)} {ts : List T} {vs : List V} {env : Env} {σ : St} {t : T} {v : V}
theorem atI_ix {α : Type} {xs : List α} {i : Int} {x : α} (h : atI xs i = some x) : ∃ j, ixN xs.length i = some j ∧ xs[j]? = some x := obind h
theorem atI_of {α : Type} {xs : List α} {n : Nat} {i : Int} {j : Nat} {x : α} (h : ixN n i = some j) (hn : xs.length = n) (hx : xs[j]? = some x) : atI xs i = some x := by
  unfold atI
  rw [hn, h]; exact hx
theorem RpTs.get : ∀ {ts : List T} {vs : List V} {o : List Addr} {i : Nat} {t : T}, RpTs K G H ts vs o → ts[i]? = some t → ∃ v o1, vs[i]? = some v ∧ Rp K G H t v o1
  | [], _, _, _, _, _, e => by simp at e
  | t :: ts, _, _, 0, t', ⟨v, r, o1, o2, h1, h2, h3, h4⟩, e => by
    simp at e; subst e; subst h1; exact ⟨v, o1, rfl, h2⟩
  | t :: ts, _, _, i + 1, t', ⟨v, r, o1, o2, h1, h2, h3, h4⟩, e => by
    subst h1
    obtain ⟨u, p, h5, h6⟩ := RpTs.get (i := i) h3 (by simpa using e)
    exact ⟨u, p, by simpa using h5, h6⟩
theorem OkS.ix {i : Int} {t' : T} (S : OkS K G0 H0 ((t, v) :: W) H ts vs env σ) (h : ixT t i = some t') :
    (∃ a xs v', v = .ref a ∧ (SqL K H a xs ∨ SqT K H a xs) ∧ (isLT t = true → SqL K H a xs) ∧ atI xs i = some v' ∧ OkS K G0 H0 ((t', v') :: W) H ts vs env σ) ∨ ∃ z c, v = .str z ∧ z.length ≤ sizeLine ∧ atI z.cps.toList i = some c ∧ t' = .p (.str ⟨#[c]⟩) := by
  obtain ⟨G, ot, oe, s⟩ := S
  obtain ⟨o, r⟩ := s.vw (t, v) (by simp)
  have mk : ∀ v' o', Rp K G H t' v' o' → OkS K G0 H0 ((t', v') :: W) H ts vs env σ := fun v' o' r' => ⟨G, ot, oe, s.tmp, s.env, s.nd, s.fr, s.g0, s.gh, s.h0, s.nw, fun q hq => by
    rcases List.mem_cons.mp hq with e | hq
    · subst e; exact ⟨o', r'⟩
    · exact s.vw q (List.mem_cons_of_mem _ hq)⟩
  cases t with
  | p d =>
    cases d with
    | lst ds =>
      obtain ⟨d, h1, h2⟩ := omap (show (atI ds i).map T.p = some t' from h)
      subst h2
      obtain ⟨⟨a, xs, e1, e2, e3⟩, _⟩ := r
      obtain ⟨j, k1, k2⟩ := atI_ix h1
      obtain ⟨v', k3, k4⟩ := e3.get k2
      exact .inl ⟨a, xs, v', e1, .inl (s.gh.seq (.inl e2)), (fun _ => s.gh.seq (.inl e2)), atI_of k1 e3.len k3, mk v' [] ⟨k4, rfl⟩⟩
    | tup ds =>
      obtain ⟨d, h1, h2⟩ := omap (show (atI ds i).map T.p = some t' from h)
      subst h2
      obtain ⟨⟨a, xs, e1, e2, e3⟩, _⟩ := r
      obtain ⟨j, k1, k2⟩ := atI_ix h1
      obtain ⟨v', k3, k4⟩ := e3.get k2
      exact .inl ⟨a, xs, v', e1, .inr (tup_seq s.gh e2), (fun z => by cases z), atI_of k1 e3.len k3, mk v' [] ⟨k4, rfl⟩⟩
    | tux ds =>
      obtain ⟨d, h1, h2⟩ := omap (show (atI ds i).map T.p = some t' from h)
      subst h2
      obtain ⟨⟨a, ob, xs, e1, e2, e5, e3⟩, _⟩ := r
      obtain ⟨j, k1, k2⟩ := atI_ix h1
      obtain ⟨v', k3, k4⟩ := e3.get k2
      exact .inl ⟨a, xs, v', e1, .inr (.inl (.inr ⟨ob, s.gh _ _ e2⟩)), (fun z => by cases z), atI_of k1 e3.len k3, mk v' [] ⟨k4, rfl⟩⟩
    | str z =>
      have h : (if z.length ≤ 16777216 then (atI z.cps.toList i).map fun c => T.p (.str ⟨#[c]⟩) else none) = some t' := h
      by_cases hz : z.length ≤ 16777216
      · rw [if_pos hz] at h
        obtain ⟨c, h1, h2⟩ := omap h
        exact .inr ⟨z, c, r.1, by rw [sizeLine_eq]; exact hz, h1, h2.symm⟩
      · rw [if_neg hz] at h; cases h
    | _ => cases h
  | lst us =>
    obtain ⟨a, xs, o', e1, e2, e3, e4⟩ := r
    obtain ⟨j, k1, k2⟩ := atI_ix (show atI us i = some t' from h)
    obtain ⟨v', o1, k3, k4⟩ := e3.get k2
    exact .inl ⟨a, xs, v', e1, .inl (.inl (.inl e2)), (fun _ => .inl (.inl e2)), atI_of k1 e3.len k3, mk v' o1 k4⟩
  | tup us =>
    obtain ⟨a, xs, e1, e2, e3⟩ := r
    obtain ⟨j, k1, k2⟩ := atI_ix (show atI us i = some t' from h)
    obtain ⟨v', o1, k3, k4⟩ := e3.get k2
    exact .inl ⟨a, xs, v', e1, .inr (tup_seq s.gh e2), (fun z => by cases z), atI_of k1 e3.len k3, mk v' o1 k4⟩
  | dic _ => cases h
  | dit _ => cases h
  | obj _ _ => cases h
  | box _ _ => cases h
  | al _ => cases h
  | din _ => cases h
theorem OkS.viewS {z : D} {u : V} (S : OkS K G0 H0 W H ts vs env σ) (h : ∀ G, RpD K G z u) : OkS K G0 H0 ((.p z, u) :: W) H ts vs env σ := (S.scal h).toview
end
def eIx (fa fi : EF) : EF := fun env => (fa env).bind fun r => (fi r.2).bind fun s => match s.1 with
  | .p (.int i) => (ixT r.1 i).map fun t => (t, s.2)
  | _ => none
section
variable {X : Cx} {e a b : Expr} {te ta tb : TE} {f fa fb : EF} {p pos : Pos}
theorem dv_ix (ha : DV X a ta fa) (hb : DT X b tb fb) (hs : PlainIx b := by exact fun _ _ => rfl) : DV X (.Subscript a b pos) (tOp (rIx X.K) ta tb) (eIx fa fb) := by
  refine ⟨pe_ix ix_seq ha.pe hb.pe hs, ?_⟩
  intro G0 H0 W H ts vs env σ t env' S g Q q
  obtain ⟨⟨x, e1⟩, h1, h2⟩ := obind g
  obtain ⟨⟨y, e2⟩, h3, h4⟩ := obind h2
  dsimp only at h4
  split at h4
  · rename_i i
    obtain ⟨t', h5, h6⟩ := omap h4
    cases h6
    refine ha.ok _ _ _ _ _ _ _ _ _ _ S h1 _ fun v H1 s1 S1 => ?_
    refine hb.ok _ _ _ _ _ _ _ _ _ _ S1 h3 _ fun w H2 s2 S2 => ?_
    have ew : w = .int i := S2.top
    subst ew
    rcases S2.pop.ix h5 with ⟨a, xs, v', e1, e2, _, e3, S3⟩ | ⟨z, c, e1, e2, e3, e4⟩
    · rcases e2 with e2 | e2
      · exact .inl ⟨a, xs, i, v', e1, rfl, e2, e3, q _ H2 (s1.trans s2) S3⟩
      · exact .inr (.inl ⟨a, xs, i, v', e1, rfl, e2, e3, q _ H2 (s1.trans s2) S3⟩)
    · subst e4
      exact .inr (.inr ⟨z, i, c, e1, rfl, e2, e3, q _ H2 (s1.trans s2) (S2.pop.unview.viewS fun _ => rfl)⟩)
  · cases h4
end
abbrev OF := Env → Option (Option Int × Env)
def EvO (K : KW) (to : TO) (f : OF) : Prop := ∀ (G0 H0 : Hp) (W : List (T × V)) (H : Hp) (ts : List T) (vs : List V) (env : Env) (σ : St) (o : Option Int) (env' : Env), OkS K G0 H0 W H ts vs env σ → f env = some (o, env') →
  ∀ Q : Option Int → Hp → Prop, (∀ H', Same H H' → OkS K G0 H0 W H' ts vs env' σ → Q o H') → to σ H Q
structure DO (X : Cx) (e : Option Expr) (to : TO) (f : OF) : Prop where
  po : PO X e to
  ok : EvO X.kw to f
def oN : OF := fun env => some (none, env)
def oS (f : EF) : OF := fun env => (f env).bind fun r => match r.1 with | .p (.int i) => some (some i, r.2) | _ => none
def cutD (ds : List D) (lo hi : Option Int) : List D := (ds.drop (HT.sIx ds.length 0 lo)).take (HT.sIx ds.length ds.length hi - HT.sIx ds.length 0 lo)
def cutT (t : T) (lo hi : Option Int) : Option T := match t with
  | .p (.str z) => if z.length ≤ 16777216 then some (.p (.str (cutS z lo hi))) else none
  | .p (.lst ds) => some (.lst ((cutD ds lo hi).map T.p))
  | .lst ts => (allP ts).map fun ds => .lst ((cutD ds lo hi).map T.p)
  | .p (.tup ds) => if HT.sIx ds.length 0 lo = 0 ∧ HT.sIx ds.length ds.length hi = ds.length then none else some (.p (.tup (cutD ds lo hi)))
  | _ => none
def eSl (fa : EF) (lo hi : OF) : EF := fun env => (fa env).bind fun r => (lo r.2).bind fun l => (hi l.2).bind fun u => (cutT r.1 l.1 u.1).map fun t => (t, u.2)
theorem RpDs.cut {K : KW} {G : Hp} {ds : List D} {xs : List V} (h : RpDs K G ds xs) (lo hi : Option Int) : RpDs K G (cutD ds lo hi) (cutV xs lo hi) := by
  unfold cutD cutV
  rw [h.len]
  exact (h.drop _).take _
def rSlA (K : PySem.W.Frag) : V → Option Int → Option Int → Hp → VK → Prop := fun x lo hi H Q => rSlL K x lo hi H Q ∨ rSlT K x lo hi H Q ∨ rSlS x lo hi H Q
theorem sl_any {X : Cx} : SlR X (rSlA X.K) := sl_list.or (sl_tup.or sl_str)
section
variable {X : Cx} {e : Expr} {te : TE} {f : EF} {lo hi : Option Expr} {tl th : TO} {fl fh : OF} {pos p2 : Pos}
theorem do_some (h : DT X e te f) : DO X (some e) (tPart te) (oS f) := by
  refine ⟨po_some h.pe, ?_⟩
  intro G0 H0 W H ts vs env σ o env' S g Q q
  obtain ⟨⟨x, e1⟩, h1, h2⟩ := obind g
  dsimp only at h2
  split at h2
  · rename_i i
    cases h2
    exact h.ok _ _ _ _ _ _ _ _ _ _ S h1 _ fun v H1 s1 S1 => ⟨i, S1.top, q H1 s1 S1.pop⟩
  · cases h2
theorem dt_sl (h : DV X e te f) (hl : DO X lo tl fl) (hh : DO X hi th fh) : DT X (.Subscript e (.Slice lo hi none p2) pos) (tSl (rSlA X.K) te tl th) (eSl f fl fh) := by
  refine ⟨pe_slice sl_any h.pe hl.po hh.po, ?_⟩
  intro G0 H0 W H ts vs env σ t env' S g Q q
  obtain ⟨⟨x, e1⟩, h1, h2⟩ := obind g
  obtain ⟨⟨l, e2⟩, h3, h4⟩ := obind h2
  obtain ⟨⟨u, e3⟩, h5, h6⟩ := obind h4
  obtain ⟨t', h7, h8⟩ := omap h6
  cases h8
  refine h.ok _ _ _ _ _ _ _ _ _ _ S h1 _ fun v H1 s1 S1 => ?_
  refine hl.ok _ _ _ _ _ _ _ _ _ _ S1 h3 _ fun H2 s2 S2 => ?_
  refine hh.ok _ _ _ _ _ _ _ _ _ _ S2 h5 _ fun H3 s3 S3 => ?_
  have s13 := (s1.trans s2).trans s3
  have lst : ∀ ds, itemsT x = some ds → isLT x = true → t = .lst ((cutD ds l u).map T.p) → rSlA X.K v l u H3 Q := fun ds hi hL ht => by
    obtain ⟨G, ot, oe, s⟩ := S3
    obtain ⟨o, r⟩ := s.vw (x, v) (by simp)
    have s' : St0 X.kw G0 H0 W G H3 ts vs _ σ ot oe := ⟨s.tmp, s.env, s.nd, s.fr, s.g0, s.gh, s.h0, s.nw, fun q hq => s.vw q (List.mem_cons_of_mem _ hq)⟩
    obtain ⟨a, xs, rfl, k1, _, _, _⟩ := OkS.items ⟨G, ot, oe, s⟩ hi
    have rp : ∃ xs, SqL X.K H3 a xs ∧ RpDs X.kw G ds xs := by
      cases x with
      | p d =>
        cases d with
        | lst ds' =>
          cases hi
          obtain ⟨⟨a', xs', e1, e2, e3⟩, _⟩ := r
          cases e1
          exact ⟨xs', s.gh.seq (.inl e2), e3⟩
        | tup ds' => cases hL
        | _ => cases hi
      | lst us =>
        have e := allP_eq (show allP us = some ds from hi)
        subst e
        obtain ⟨a', xs', o', e1, e2, e3, e4⟩ := r
        cases e1
        exact ⟨xs', .inl (.inl e2), (rpDs_of e3).1⟩
      | tup us => cases hL
      | dic _ => cases hi
      | dit _ => cases hi
      | obj _ _ => cases hi
      | box _ _ => cases hi
      | al _ => cases hi
      | din _ => cases hi
    obtain ⟨xs, hx, hr⟩ := rp
    refine .inl ⟨a, xs, rfl, hx, fun p hp => ?_⟩
    subst ht
    have hc := hr.cut l u
    exact q _ _ (s13.trans (same_upd hp)) (OkS.newL (by rw [List.length_map]; exact hc.len) (OkS.pushD s' hc) hp)
  have h7 : cutT x l u = some t := h7
  cases x with
  | p d =>
    cases d with
    | str z =>
      have h7 : (if z.length ≤ 16777216 then some (T.p (.str (cutS z l u))) else none) = some t := h7
      by_cases hz : z.length ≤ 16777216
      · rw [if_pos hz] at h7
        cases h7
        exact .inr (.inr ⟨z, (S3.see (q := (T.p (.str z), v)) (by simp)), by rw [sizeLine_eq]; exact hz, q _ H3 s13 (S3.unview.scal fun _ => rfl)⟩)
      · rw [if_neg hz] at h7; cases h7
    | lst ds =>
      cases h7
      exact lst ds rfl rfl rfl
    | tup ds =>
      have h7 : (if HT.sIx ds.length 0 l = 0 ∧ HT.sIx ds.length ds.length u = ds.length then none else some (T.p (.tup (cutD ds l u)))) = some t := h7
      by_cases hw : HT.sIx ds.length 0 l = 0 ∧ HT.sIx ds.length ds.length u = ds.length
      · rw [if_pos hw] at h7; cases h7
      · rw [if_neg hw] at h7
        cases h7
        obtain ⟨G, ot, oe, s⟩ := S3
        obtain ⟨o, r⟩ := s.vw (.p (.tup ds), v) (by simp)
        have s' : St0 X.kw G0 H0 W G H3 ts vs _ σ ot oe := ⟨s.tmp, s.env, s.nd, s.fr, s.g0, s.gh, s.h0, s.nw, fun q hq => s.vw q (List.mem_cons_of_mem _ hq)⟩
        obtain ⟨⟨a, xs, e1, e2, e3⟩, _⟩ := r
        refine .inr (.inl ⟨a, xs, e1, tup_seq s.gh e2, by rw [e3.len]; exact hw, fun p hp => ?_⟩)
        have hc := e3.cut l u
        have S4 := OkS.newT (by rw [List.length_map]; exact hc.len) (OkS.pushD s' hc) hp
        rw [mkTup_p] at S4
        exact q _ _ (s13.trans (same_upd hp)) S4
    | _ => cases h7
  | lst us =>
    obtain ⟨ds, k1, k2⟩ := omap (show (allP us).map (fun ds => T.lst ((cutD ds l u).map T.p)) = some t from h7)
    exact lst ds k1 rfl k2.symm
  | _ => cases h7
end
section
variable {K : KW} {G0 H0 H : Hp} {W : List (T × V)} {ts : List T} {vs : List V} {env : Env} {σ : St} {t : T} {v : V}
theorem OkS.wrL {us es : List T} {ws : List V} (S : OkS K G0 H0 W H (.lst us :: (es ++ ts)) (v :: (ws ++ vs)) env σ) (hw : ws.length = es.length) : ∃ a xs, v = .ref a ∧ H a = some (.lst xs) ∧ xs.length = us.length ∧
    ∀ (us' : List T) (xs' : List V), (∀ (G : Hp) (o1 o2 : List Addr), RpTs K G H us xs o1 → RpTs K G H es ws o2 → ∃ o' r, RpTs K G H us' xs' o' ∧ (o1 ++ o2).Perm (o' ++ r)) → OkS K G0 H0 [] (upd H a (.lst xs')) (.lst us' :: ts) (.ref a :: vs) env σ := by
  obtain ⟨G, ot, oe, s⟩ := S
  obtain ⟨v0, r0, oa, ob, h1, ⟨a, xs, o1, e1, e2, e3, e4⟩, h3, h4⟩ := s.tmp
  cases h1
  obtain ⟨o2, o3, k1, k2, k3⟩ := h3.split hw
  refine ⟨a, xs, e1, e2, e3.len, fun us' xs' hf => ?_⟩
  obtain ⟨o', r, f1, f2⟩ := hf G o1 o2 e3 k1
  have pm : (ot ++ oe).Perm (a :: (o' ++ (o3 ++ oe)) ++ r) := by
    rw [h4, e4, k3]
    have q1 : (a :: o1 ++ (o2 ++ o3) ++ oe) = a :: ((o1 ++ o2) ++ (o3 ++ oe)) := by simp
    rw [q1, List.cons_append]
    refine List.Perm.cons a ?_
    refine (List.Perm.append_right _ f2).trans ?_
    rw [List.append_assoc, List.append_assoc]
    exact List.Perm.append_left _ List.perm_append_comm
  have nd := (List.nodup_append.mp (pm.nodup_iff.mp s.nd)).1
  have na : ∀ b ∈ o' ++ (o3 ++ oe), b ≠ a := fun b hb e => by
    subst e
    exact (List.nodup_cons.mp nd).1 hb
  have kp : ∀ b ∈ o' ++ (o3 ++ oe), upd H a (.lst xs') b = H b := fun b hb => upd_ne (na b hb)
  have fr : ∀ b ∈ a :: (o' ++ (o3 ++ oe)), G b = none ∧ H0 b = none := fun b hb => s.fr b (pm.mem_iff.mpr (List.mem_append_left _ hb))
  refine ⟨G, a :: o' ++ o3, oe, ⟨.ref a, vs, a :: o', o3, rfl, ⟨a, xs', o', rfl, upd_same, f1.mono (Same.refl _) _ (fun b hb => kp b (by simp [hb])), rfl⟩, k2.mono (Same.refl _) _ (fun b hb => kp b (by simp [hb])), rfl⟩, s.env.mono (Same.refl _) _ (fun b hb => kp b (by simp [hb])), by simpa using nd, fun b hb => fr b (by simpa using hb), s.g0, fun b u e => ?_, fun b u e => ?_, s.nw, fun q hq => by cases hq⟩
  · have : b ≠ a := fun z => by subst z; rw [(fr b (by simp)).1] at e; cases e
    rw [upd_ne this]; exact s.gh b u e
  · have : b ≠ a := fun z => by subst z; rw [(fr b (by simp)).2] at e; cases e
    rw [upd_ne this]; exact s.h0 b u e
theorem RpTs.set {G : Hp} : ∀ {ts : List T} {vs : List V} {o : List Addr} {i : Nat} {t : T} {v : V} {o1 : List Addr}, RpTs K G H ts vs o → i < ts.length → Rp K G H t v o1 → ∃ o' r, RpTs K G H (ts.set i t) (vs.set i v) o' ∧ (o ++ o1).Perm (o' ++ r)
  | [], _, _, _, _, _, _, _, hi, _ => by simp at hi
  | u :: us, _, _, 0, t, v, o1, ⟨w, r, p1, p2, h1, h2, h3, h4⟩, _, h => by
    subst h1; subst h4
    refine ⟨o1 ++ p2, p1, ⟨v, r, o1, p2, rfl, h, h3, rfl⟩, ?_⟩
    rw [List.append_assoc]
    refine List.perm_append_comm.trans ?_
    exact List.Perm.append_right _ List.perm_append_comm
  | u :: us, _, _, i + 1, t, v, o1, ⟨w, r, p1, p2, h1, h2, h3, h4⟩, hi, h => by
    subst h1; subst h4
    obtain ⟨o', r', g1, g2⟩ := RpTs.set (i := i) h3 (by simpa using hi) h
    refine ⟨p1 ++ o', r', ⟨w, _, p1, o', rfl, h2, g1, rfl⟩, ?_⟩
    rw [List.append_assoc, List.append_assoc]
    exact List.Perm.append_left _ g2
end
def sApp (i : Nat) (f : EF) : SF := fun env => match env[i]? with
  | some (some (.lst _)) => (f env).bind fun r => match r.2[i]? with
    | some (some (.lst us)) => if us.length < 16000000 then some (.nx, r.2.set i (some (.lst (us ++ [r.1])))) else none
    | _ => none
  | _ => none
section
variable {X : Cx} {e : Expr} {te : TE} {f : EF} {pos cpos apos npos : Pos}
theorem ds_app (i : Nat) {x : Str} (h : DT X e te f) (hN : X.N[i]? = some x := by rfl) (hv : Vis X.env.scope x := by first | exact Or.inl rfl | exact Or.inr (Or.inl rfl) | exact Or.inr (Or.inr rfl)) (hd : (x == ("__debug__" : Str)) = false := by decide) (hcd : (x == ("__classdict__" : Str)) = false := by decide)
    (hse : starEach [e] X.env = (false, eval e X.env) :: starEach [] X.env := by rfl)
    (hfew : ((backTo cpos (starEach [e] X.env)).all (fun x => !x.1) && (backToKw cpos (keywordEach [] X.env)).all (fun x => x.1.isSome)
      && decide ([e].length + ([] : List Keyword).length + (if ([] : List Keyword).isEmpty then 0 else 1) < 30)) = true := by rfl)
    (hline : (apos.endLine == cpos.line) = true := by rfl)
    (hs : swapsWith (.Call (.Attribute (.Name x npos) "append" apos) [e] [] cpos) none pos.line X.env = pure false := by rfl) :
    DS X (.Expr (.Call (.Attribute (.Name x npos) "append" apos) [e] [] cpos) pos) (tDrop (tBM X.K "list" rAppend (tVar i) (tCons te tNil))) (sApp i f) [] := by
  refine ⟨ps_expr (pe_bm PySem.F.plainAttrs_list PySem.F.slot_list_append PySem.F.type_list_append mt_append (pe_var hN hv hd hcd) (pa_cons h.pe pa_nil hse) rfl hfew hline hse rfl) hs, ?_⟩
  intro G0 H0 H ts vs env σ fl env' S g D q
  unfold sApp at g
  split at g
  · rename_i us0 he
    obtain ⟨⟨t, e1⟩, g1, g2⟩ := obind g
    dsimp only at g2
    split at g2
    · rename_i us he1
      by_cases hl : us.length < 16000000
      · rw [if_pos hl] at g2
        cases g2
        obtain ⟨v, hv1, S1⟩ := S.look he
        obtain ⟨a0, xs0, ev, hq0, _⟩ : ∃ a xs, v = .ref a ∧ SqL X.K H a xs ∧ True := by
          obtain ⟨a, xs, k1, k2, _⟩ := S1.see (q := (T.lst us0, v)) (by simp)
          exact ⟨a, xs, k1, .inl k2, trivial⟩
        subst ev
        refine ⟨.ref a0, hv1, .inl ⟨rfl, _, hq0⟩, ?_⟩
        refine h.ok _ _ _ _ _ _ _ _ _ _ S g1 _ fun w H1 s1 S2 => ?_
        obtain ⟨v2, hv2, S3⟩ := S2.get he1
        rw [hv1] at hv2
        cases hv2
        obtain ⟨a, xs, k1, k2, k3, k4⟩ := OkS.wrL (es := [t]) (ws := [w]) S3 rfl
        cases k1
        refine ⟨a0, xs, w, rfl, rfl, k2, by rw [k3, sizeLine_eq]; omega, ?_⟩
        have S4 := k4 (us ++ [t]) (xs ++ [w]) fun G o1 o2 r1 r2 => ⟨o1 ++ o2, [], r1.append r2, by simp⟩
        have hlen : i < e1.length := (List.getElem?_eq_some_iff.mp he1).1
        have S5 := S4.put (i := i) (by simpa using hlen)
        rw [List.set_set, set_back hv1] at S5
        exact q _ _ S5 .rfl'
      · rw [if_neg hl] at g2; cases g2
    · cases g2
  · cases g
end
def asI : T → Option Int
  | .p (.int i) => some i
  | _ => none
theorem asI_eq {t : T} {i : Int} (h : asI t = some i) : t = .p (.int i) := by
  unfold asI at h
  split at h
  · cases h; rfl
  · cases h
def atL (env : Env) (i : Nat) : Option (List T) := match env[i]? with
  | some (some (.lst us)) => some us
  | _ => none
theorem atL_eq {env : Env} {i : Nat} {us : List T} (h : atL env i = some us) : env[i]? = some (some (.lst us)) := by
  unfold atL at h
  split at h
  · rename_i h'; cases h; exact h'
  · cases h
def sPut (i : Nat) (fj f : EF) : SF := fun env => (f env).bind fun r => (atL r.2 i).bind fun _ => (fj r.2).bind fun s => (asI s.1).bind fun j => (atL s.2 i).bind fun us =>
  (ixN us.length j).map fun k => (.nx, s.2.set i (some (.lst (us.set k r.1))))
def sAugIx (i : Nat) (h : Int → Int → Int) (fj f : EF) : SF := fun env => (atL env i).bind fun _ => (fj env).bind fun s => (asI s.1).bind fun j => if 0 ≤ j then (atL s.2 i).bind fun us => (atI us j).bind fun t => (asI t).bind fun x =>
  (f s.2).bind fun r => (asI r.1).bind fun y => (atL r.2 i).bind fun us2 => (ixN us2.length j).map fun k => (.nx, r.2.set i (some (.lst (us2.set k (.p (.int (h x y)))))))
  else none
end DL
namespace DL
open PySem PySem.Spec PyProof.Rows L2
section
variable {X : Cx}
end
section
variable {X : Cx} {e j : Expr} {te tj : TE} {f fj : EF} {pos npos ipos : Pos}
theorem ds_put (i : Nat) {x : Str} (h : DT X e te f) (hj : DT X j tj fj) (hN : X.N[i]? = some x := by rfl) (hv : Vis X.env.scope x := by first | exact Or.inl rfl | exact Or.inr (Or.inl rfl) | exact Or.inr (Or.inr rfl)) (hd : (x == ("__debug__" : Str)) = false := by decide) (hcd : (x == ("__classdict__" : Str)) = false := by decide)
    (ha : ∀ v, assign (.Subscript (.Name x npos) j ipos) X.env v = (do
      let ov ← holding [v] (eval (.Name x npos) X.env)
      let iv ← holding [v, ov] (eval j X.env)
      standAt ipos
      holding [v, ov, iv] (setItem ov iv v)
      release [v, ov, iv] []) := by intro _; rfl) (hs : swapsWithSole [.Subscript (.Name x npos) j ipos] e pos.line X.env = pure false := by rfl) (hw : swappedStores [.Subscript (.Name x npos) j ipos] e X.env = pure none := by rfl)
    (h1 : (assignEach [.Subscript (.Name x npos) j ipos] X.env).map (·.2) = [assign (.Subscript (.Name x npos) j ipos) X.env] := by rfl) :
    DS X (.Assign [.Subscript (.Name x npos) j ipos] e pos) (tAsg te (gSub (tVar i) tj rSetL)) (sPut i fj f) [] := by
  refine ⟨ps_asg h.pe (pg_sub (pe_var hN hv hd hcd) hj.pe set_list ha) hs hw h1, ?_⟩
  intro G0 H0 H ts vs env σ fl env' S g D q
  obtain ⟨⟨t, e1⟩, g1, g2⟩ := obind g
  obtain ⟨us, g3, g4⟩ := obind g2
  have he1 := atL_eq g3
  obtain ⟨⟨y, e2⟩, g5, g6⟩ := obind g4
  obtain ⟨k, g7, g8⟩ := obind g6
  have ey : y = .p (.int k) := asI_eq g7
  subst ey
  obtain ⟨us', g9, g10⟩ := obind g8
  have he2 := atL_eq g9
  obtain ⟨m, g11, g12⟩ := omap g10
  cases g12
  refine h.ok _ _ _ _ _ _ _ _ _ _ S g1 _ fun w H1 s1 S1 => ?_
  obtain ⟨v, hv1, S2⟩ := S1.look he1
  refine ⟨v, hv1, ?_⟩
  refine hj.ok _ _ _ _ _ _ _ _ _ _ S2.unview g5 _ fun z H2 s2 S3 => ?_
  have ez : z = .int k := S3.top
  subst ez
  obtain ⟨v2, hv2, S4⟩ := S3.pop.get he2
  rw [hv1] at hv2
  cases hv2
  obtain ⟨a, xs, k1, k2, k3, k4⟩ := OkS.wrL (es := [t]) (ws := [w]) S4 rfl
  cases k1
  have g11 : ixN us'.length k = some m := g11
  refine ⟨a, xs, k, m, rfl, rfl, k2, by rw [k3]; exact g11, ?_⟩
  have hm : m < us'.length := (ixN_seq g11).2.1
  have S5 := k4 (us'.set m t) (xs.set m w) fun G o1 o2 r1 r2 => by
    obtain ⟨v', r', p1, p2, q1, q2, q3, q4⟩ := r2
    cases q1
    have q3 : _ ∧ p2 = [] := q3
    obtain ⟨o', r, f1, f2⟩ := r1.set (i := m) hm q2
    exact ⟨o', r, f1, by rw [q4, q3.2, List.append_nil]; exact f2⟩
  have hlen : i < e2.length := (List.getElem?_eq_some_iff.mp he2).1
  have S6 := S5.put (i := i) (by simpa using hlen)
  rw [List.set_set, set_back hv1] at S6
  exact q _ _ S6 .rfl'
def sAug (i : Nat) (g : D → D → Option D) (f : EF) : SF := fun env => match env[i]? with
  | some (some (.p a)) => (f env).bind fun r => match r.1 with
    | .p b => (g a b).bind fun d => if i < r.2.length then some (.nx, r.2.set i (some (.p d))) else none
    | _ => none
  | _ => none
end
end DL
namespace DL
open PySem PySem.Spec PyProof.Rows L2
def wipeE (env : Env) : List Nat → Env
  | [] => env
  | v :: vs => (wipeE env vs).set v none
theorem wipeE_some {env : Env} {j : Nat} {t : T} : ∀ {vs : List Nat}, (wipeE env vs)[j]? = some (some t) → j ∉ vs ∧ env[j]? = some (some t)
  | [], h => ⟨by simp, h⟩
  | v :: vs, h => by
    unfold wipeE at h
    by_cases hj : v = j
    · subst hj
      by_cases hl : v < (wipeE env vs).length
      · rw [List.getElem?_set_self hl] at h; cases h
      · rw [List.getElem?_eq_none (by simpa using hl)] at h; cases h
    · rw [List.getElem?_set_ne hj] at h
      obtain ⟨h1, h2⟩ := wipeE_some h
      exact ⟨by simp [h1, Ne.symm hj], h2⟩
section
variable {K : KW} {G0 H0 H G H' : Hp} {W : List (T × V)} {ts : List T} {vs : List V} {env : Env} {σ σ' : St} {t : T} {v : V}
theorem RpE.slots : ∀ {es : Env} {σ σ' : St} {o : List Addr}, RpE K G H es σ o → σ'.length = σ.length → (∀ (j : Nat) (t : T), es[j]? = some (some t) → σ'[j]? = σ[j]?) → RpE K G H es σ' o
  | [], σ, σ', o, ⟨h, h2⟩, hl, _ => by
    subst h
    cases σ' with
    | nil => exact ⟨rfl, h2⟩
    | cons _ _ => simp at hl
  | none :: es, _, σ', o, ⟨x, r, h1, h2⟩, hl, hk => by
    subst h1
    cases σ' with
    | nil => simp at hl
    | cons y σ' => exact ⟨y, σ', rfl, RpE.slots h2 (by simpa using hl) fun j t e => by simpa using hk (j + 1) t (by simpa using e)⟩
  | some u :: es, _, σ', o, ⟨x, r, o1, o2, h1, h2, h3, h4⟩, hl, hk => by
    subst h1
    cases σ' with
    | nil => simp at hl
    | cons y σ' =>
      have e : y = some x := by simpa using hk 0 u rfl
      subst e
      exact ⟨x, σ', o1, o2, rfl, h2, RpE.slots h3 (by simpa using hl) (fun j t e => by simpa using hk (j + 1) t (by simpa using e)), h4⟩
theorem OkS.slots (S : OkS K G0 H0 W H ts vs env σ) (hl : σ'.length = σ.length) (hk : ∀ (j : Nat) (t : T), env[j]? = some (some t) → σ'[j]? = σ[j]?) : OkS K G0 H0 W H ts vs env σ' := by
  obtain ⟨G, ot, oe, s⟩ := S
  exact ⟨G, ot, oe, s.tmp, s.env.slots hl hk, s.nd, s.fr, s.g0, s.gh, s.h0, s.nw, s.vw⟩
theorem OkS.forget1 (S : OkS K G0 H0 W H ts vs env σ) (i : Nat) : OkS K G0 H0 W H ts vs (env.set i none) σ := by
  obtain ⟨G, ot, oe, s⟩ := S
  obtain ⟨o1, o2, h, pm⟩ := s.env.drop i
  have pm2 : (ot ++ oe).Perm (o1 ++ (ot ++ o2)) := (List.Perm.append_left ot pm).trans (perm_mid _ _ _)
  exact ⟨G, ot, o2, s.tmp, h, (List.nodup_append.mp (pm2.nodup_iff.mp s.nd)).2.1, fun a ha => s.fr a (pm2.mem_iff.mpr (List.mem_append_right _ ha)), s.g0, s.gh, s.h0, s.nw, s.vw⟩
theorem OkS.forget (S : OkS K G0 H0 W H ts vs env σ) : ∀ l : List Nat, OkS K G0 H0 W H ts vs (wipeE env l) σ
  | [] => S
  | i :: l => (OkS.forget S l).forget1 i
theorem wipe_out' {σ : St} {j : Nat} : ∀ {l : List Nat}, j ∉ l → (wipe σ l)[j]? = σ[j]?
  | [], _ => rfl
  | v :: l, h => by
    simp only [List.mem_cons, not_or] at h
    unfold wipe
    rw [List.getElem?_set_ne (Ne.symm h.1)]
    exact wipe_out' h.2
theorem wipe_in {σ : St} {j : Nat} : ∀ {l : List Nat}, j ∈ l → j < σ.length → (wipe σ l)[j]? = some none
  | [], h, _ => by cases h
  | v :: l, h, hl => by
    unfold wipe
    by_cases e : v = j
    · subst e
      rw [List.getElem?_set_self (by rw [wipe_length]; exact hl)]
    · rw [List.getElem?_set_ne e]
      rcases List.mem_cons.mp h with z | z
      · exact absurd z.symm e
      · exact wipe_in z hl
theorem wipe_eq {σ σ' : St} {l : List Nat} (hl : σ'.length = σ.length) (h : ∀ j, j ∉ l → σ'[j]? = σ[j]?) : wipe σ' l = wipe σ l := by
  apply List.ext_getElem?
  intro j
  by_cases hj : j ∈ l
  · by_cases hlt : j < σ.length
    · rw [wipe_in hj hlt, wipe_in hj (by omega)]
    · rw [List.getElem?_eq_none (by rw [wipe_length]; omega), List.getElem?_eq_none (by rw [wipe_length]; omega)]
  · rw [wipe_out' hj, wipe_out' hj]; exact h j hj
theorem OkS.toWipe (S : OkS K G0 H0 W H ts vs env σ) (l : List Nat) : OkS K G0 H0 W H ts vs (wipeE env l) (wipe σ l) :=
  (S.forget l).slots (wipe_length _ _) fun j t e => wipe_out' (wipeE_some e).1
theorem OkS.fixV (S : OkS K G0 H0 W H ts vs env σ) : ∃ G1, Gst G0 H0 G1 ∧ (∀ q ∈ W, ∃ o, Rp K G1 H q.1 q.2 o) ∧ OkS K G1 H0 [] H ts vs env σ := by
  obtain ⟨G, ot, oe, s⟩ := S
  refine ⟨G, ⟨s.g0, s.nw⟩, s.vw, G, ot, oe, s.tmp, s.env, s.nd, s.fr, Same.refl _, s.gh, s.h0, fun a o e => .inl (by rw [e]; simp), fun q hq => by cases hq⟩
theorem OkS.reV {G1 : Hp} (S : OkS K G1 H0 [] H' ts vs env σ) (h : ∀ q ∈ W, ∃ o, Rp K G1 H q.1 q.2 o) (s1 : Same H H') : OkS K G1 H0 W H' ts vs env σ := by
  obtain ⟨G, ot, oe, s⟩ := S
  refine ⟨G, ot, oe, s.tmp, s.env, s.nd, s.fr, s.g0, s.gh, s.h0, s.nw, fun q hq => ?_⟩
  obtain ⟨o, r⟩ := h q hq
  refine ⟨o, r.mono s.g0 _ fun a ha => ?_⟩
  obtain ⟨u, e, _⟩ := r.there _ a ha
  rw [e, s1 a u e]
end
theorem ItOk.mono {K : KW} {G1 G2 : Hp} {J : It} {ds : List D} (I : ItOk K G1 J ds) (s : Same G1 G2) : ItOk K G2 J ds where
  go := fun i H h hi => I.go i H (s.trans h) hi
  stop := fun H h => I.stop H (s.trans h)
  yld := fun i H x H' d h hd y => by
    rcases I.yld i H x H' d (s.trans h) hd y with ⟨e, r⟩ | ⟨p, xs, es, h1, h2, h3, h4, h5⟩
    · exact .inl ⟨e, RpD.mono s _ r⟩
    · exact .inr ⟨p, xs, es, h1, h2, h3, h4, RpDs.mono s _ h5⟩
def compD (own : List Nat) (G : GF) (test : CF) (elt : EF) : List D → Env → Option (List T × Env)
  | [], env => some ([], env)
  | d :: ds, env => (G (.p d) env).bind fun e1 => (test e1).bind fun r => if r.1 then (elt r.2).bind fun s => (compD own G test elt ds (wipeE s.2 own)).map fun z => (s.1 :: z.1, z.2)
    else compD own G test elt ds (wipeE r.2 own)
def eComp (own : List Nat) (f : IF) (G : GF) (test : CF) (elt : EF) : EF := fun env => (f env).bind fun r => if r.1.length ≤ 1000000 then (compD own G test elt r.1 (wipeE r.2 own)).map fun z => (.lst z.1, z.2) else none
theorem ev_comp {K : KW} {wi : TI} {fi : IF} {g : TG} {G : GF} {sl own : List Nat} {tt : TT} {ct : CF} {te : TE} {fe : EF} (hI : EvI K wi fi) (hg : EvG K g G sl) (hsl : ∀ j ∈ sl, j ∈ own) (ht : EvC K tt ct) (he : EvT K te fe) : EvT K (tLc wi g tt te own) (eComp own fi G ct fe) := by
  intro G0 H0 W H ts vs env σ t env' S e Q q
  obtain ⟨⟨ds, e1⟩, g1, g2⟩ := obind e
  by_cases hlen : ds.length ≤ 1000000
  · rw [if_pos hlen] at g2
    obtain ⟨⟨us, e2⟩, g3, g4⟩ := omap g2
    cases g4
    refine hI _ _ _ _ _ _ _ _ _ _ S g1 _ fun J H1 G1 s1 gst I S1 => ?_
    obtain ⟨G2, gst2, hv, S2⟩ := S1.fixV
    have I2 := I.mono gst2.s
    intro D hD
    have S3 : OkS K G2 H0 [] (upd H1 D (.lst [])) (.lst [] :: ts) (.ref D :: vs) (wipeE e1 own) (wipe σ own) := (OkS.newL (us := []) (ws := []) rfl S2 hD).toWipe own
    refine ⟨fun i m H => m = ds.length - i ∧ i ≤ ds.length ∧ Same H1 H ∧ ∃ env acc rest, OkS K G2 H0 [] H (.lst acc :: ts) (.ref D :: vs) env (wipe σ own) ∧ compD own G ct fe (ds.drop i) env = some (rest, e2) ∧ us = acc ++ rest ∧ acc.length ≤ i ∧ (∀ (j : Nat) (t : T), env[j]? = some (some t) → j ∉ own),
      ⟨ds.length, by simp, Nat.zero_le _, same_upd hD, wipeE e1 own, [], us, S3, by simpa using g3, rfl, Nat.le_refl _, fun j t e => (wipeE_some e).1⟩, ?_⟩
    rintro i m Hi ⟨rfl, hle, sm, envi, acc, rest, Si, hc, hu, ha, hw0⟩
    by_cases hlt : i < ds.length
    · refine .inr ⟨I2.go i Hi Si.same hlt, fun H' => i + 1 ≤ ds.length ∧ Same H1 H' ∧ ∃ env acc rest, OkS K G2 H0 [] H' (.lst acc :: ts) (.ref D :: vs) env (wipe σ own) ∧ compD own G ct fe (ds.drop (i + 1)) env = some (rest, e2) ∧ us = acc ++ rest ∧ acc.length ≤ i + 1 ∧ (∀ (j : Nat) (t : T), env[j]? = some (some t) → j ∉ own), fun H' ⟨h1, h2⟩ => ⟨ds.length - (i + 1), by omega, rfl, h1, h2⟩, fun x H3 y => ?_⟩
      obtain ⟨s3, S4⟩ := I2.item Si (List.getElem?_eq_getElem hlt) y
      rw [List.drop_eq_getElem_cons hlt] at hc
      obtain ⟨e3, l1, l2⟩ := obind hc
      obtain ⟨⟨b, e4⟩, l3, l4⟩ := obind l2
      refine hg _ _ _ _ _ _ _ _ _ _ _ S4 l1 _ fun σ2 S5 dif => ?_
      have hw : wipe σ2 own = wipe σ own := by
        refine wipe_eq (dif.1.trans (wipe_length _ _)) fun j hj => (dif.2 j fun z => hj (hsl j z)).trans (wipe_out' hj)
      have again : ∀ {H4 : Hp} {e5 : Env} {acc' : List T}, OkS K G2 H0 [] H4 (.lst acc' :: ts) (.ref D :: vs) e5 σ2 → OkS K G2 H0 [] H4 (.lst acc' :: ts) (.ref D :: vs) (wipeE e5 own) (wipe σ own) := fun S => by
        rw [← hw]; exact S.toWipe own
      refine ⟨hw, ?_⟩
      refine ht _ _ _ _ _ _ _ _ _ _ S5 l3 _ fun H4 s4 S6 => ?_
      cases b with
      | false =>
        rw [if_neg Bool.false_ne_true]
        exact ⟨hlt, (sm.trans s3).trans s4, _, acc, rest, again S6, l4, hu, by omega, fun j t e => (wipeE_some e).1⟩
      | true =>
        rw [if_pos rfl]
        obtain ⟨⟨u, e5⟩, l5, l6⟩ := obind (show (fe e4).bind (fun s => (compD own G ct fe (ds.drop (i + 1)) (wipeE s.2 own)).map fun z => (s.1 :: z.1, z.2)) = some (rest, e2) from l4)
        obtain ⟨⟨zs, e6⟩, l7, l8⟩ := omap l6
        cases l8
        refine he _ _ _ _ _ _ _ _ _ _ S6 l5 _ fun y H5 s5 S7 => ?_
        have S8 : OkS K G2 H0 [] H5 (.lst acc :: ([u] ++ ts)) (.ref D :: ([y] ++ vs)) e5 σ2 := OkS.mid (us := [u]) (ws := [y]) rfl S7 |> fun S => by
          have := OkS.mid (us := [u]) (ws := [y]) (x := .lst acc) (y := .ref D) rfl S7
          exact this
        obtain ⟨a, xs, k1, k2, k3, k4⟩ := OkS.wrL (es := [u]) (ws := [y]) S8 rfl
        cases k1
        refine ⟨xs, k2, by rw [k3, sizeLine_eq]; omega, hlt, ?_, _, acc ++ [u], zs, again (k4 (acc ++ [u]) (xs ++ [y]) fun G o1 o2 r1 r2 => ⟨o1 ++ o2, [], r1.append r2, by simp⟩), l7, by rw [hu]; simp, by simp; omega, fun j t e => (wipeE_some e).1⟩
        intro b ob eb
        have : b ≠ D := fun z => by rw [z, hD] at eb; cases eb
        rw [upd_ne this]
        exact s5 b ob (s4 b ob (s3 b ob (sm b ob eb)))
    · have hi' : i = ds.length := by omega
      subst hi'
      rw [List.drop_length] at hc
      cases hc
      rw [List.append_nil] at hu
      subst hu
      have Sf : OkS K G2 H0 W Hi (.lst us :: ts) (.ref D :: vs) e2 σ := (Si.slots (by rw [wipe_length]) fun j t e => (wipe_out' (hw0 j t e)).symm).reV hv sm
      exact .inl ⟨I2.stop Hi Si.same, q _ Hi (s1.trans sm) ((Sf.back gst2).back gst)⟩
  · rw [if_neg hlen] at g2; cases g2
end DL
namespace DL
open PySem PySem.Spec PyProof.Rows L2
structure DTs (X : Cx) (es : List Expr) (t : TT) (c : CF) : Prop where
  pt : PTs X es t
  ok : EvC X.kw t c
def cYes : CF := fun env => some (true, env)
theorem dts_nil {X : Cx} : DTs X [] tYes cYes := ⟨pts_nil, fun _ _ _ H _ _ _ _ _ _ S e Q q => by cases e; exact q H (Same.refl _) S⟩
theorem dts_one {X : Cx} {e : Expr} {t : TT} {c : CF} (h : DC X e t c) : DTs X [e] t c := ⟨pts_one h.pt, h.ok⟩
def teW (K : KW) (f : EF) : TE := fun σ H Q => ∃ (G0 H0 : Hp) (W : List (T × V)) (ts : List T) (vs : List V) (env : Env) (t : T) (env' : Env), OkS K G0 H0 W H ts vs env σ ∧ f env = some (t, env') ∧ ∀ v H', Same H H' → OkS K G0 H0 W H' (t :: ts) (v :: vs) env' σ → Q v H'
def ttW (K : KW) (f : CF) : TT := fun σ H Q => ∃ (G0 H0 : Hp) (W : List (T × V)) (ts : List T) (vs : List V) (env : Env) (c : Bool) (env' : Env), OkS K G0 H0 W H ts vs env σ ∧ f env = some (c, env') ∧ ∀ H', Same H H' → OkS K G0 H0 W H' ts vs env' σ → Q c H'
theorem ev_teW {K : KW} {f : EF} : EvT K (teW K f) f := fun G0 H0 W H ts vs env σ t env' S e Q q => ⟨G0, H0, W, ts, vs, env, t, env', S, e, q⟩
theorem ev_ttW {K : KW} {f : CF} : EvC K (ttW K f) f := fun G0 H0 W H ts vs env σ t env' S e Q q => ⟨G0, H0, W, ts, vs, env, t, env', S, e, q⟩
theorem pe_W {X : Cx} {e : Expr} {te : TE} {f : EF} (h : DT X e te f) : PE X e (teW X.kw f) := ⟨fun pins s σ H Q I ⟨_, _, _, _, _, _, _, _, S, g, q⟩ => h.pe.run pins s σ H Q I (h.ok _ _ _ _ _ _ _ _ _ _ S g Q q)⟩
theorem pts_W {X : Cx} {e : List Expr} {te : TT} {f : CF} (h : DTs X e te f) : PTs X e (ttW X.kw f) := ⟨fun pins s σ H Q I ⟨_, _, _, _, _, _, _, _, S, g, q⟩ => h.pt.run pins s σ H Q I (h.ok _ _ _ _ _ _ _ _ _ _ S g Q q)⟩
def tgW (K : KW) (G : GF) (sl : List Nat) : TG := fun x σ H Q => ∃ (G0 H0 : Hp) (W : List (T × V)) (ts : List T) (vs : List V) (env : Env) (d : T) (env' : Env), OkS K G0 H0 W H (d :: ts) (x :: vs) env σ ∧ G d env = some env' ∧ ∀ σ', OkS K G0 H0 W H ts vs env' σ' → Dif sl σ σ' → Q σ' H
theorem ev_tgW {K : KW} {G : GF} {sl : List Nat} : EvG K (tgW K G sl) G sl := fun G0 H0 W H ts vs env σ d x env' S e Q q => ⟨G0, H0, W, ts, vs, env, d, env', S, e, q⟩
theorem pg_W {X : Cx} {e : Expr} {g : TG} {G : GF} {sl : List Nat} (h : DG X e g G sl) : PG X e (tgW X.kw G sl) := ⟨fun pins s σ H v u Q I r ⟨_, _, _, _, _, _, _, _, S, g, q⟩ => h.pg.run pins s σ H v u Q I r (h.ok _ _ _ _ _ _ _ _ _ _ _ S g Q q)⟩
section
variable {X : Cx} {elt tg iter : Expr} {ifs : List Expr} {scope : Scope} {own : List (Str × Nat)} {pos spos py : Pos} {wi : TI} {fi : IF} {g : Shared → Hp → Addr → List (Str × Addr) → List Addr → TG} {G : GF} {sl : List Nat} {tt : Shared → Hp → Addr → List (Str × Addr) → List Addr → TT} {ct : CF} {te : Shared → Hp → Addr → List (Str × Addr) → List Addr → TE} {fe : EF} {i : Nat} {y : Str}
theorem dt_comp (hc : X.calm = true) (hN : X.N.Nodup) (hi : DI X tg iter wi fi) (ok : BlkOk X.N X.env.scope scope own)
    (hg : ∀ (s : Shared) (H : Hp) (C : Addr) (cl : List (Str × Addr)) (fp : List Addr), DG (X.blk s H scope (compEnvC scope cl C X.env) fp) tg (g s H C cl fp) G sl) (ht : ∀ (s : Shared) (H : Hp) (C : Addr) (cl : List (Str × Addr)) (fp : List Addr), DTs (X.blk s H scope (compEnvC scope cl C X.env) fp) ifs (tt s H C cl fp) ct)
    (he : ∀ (s : Shared) (H : Hp) (C : Addr) (cl : List (Str × Addr)) (fp : List Addr), DT (X.blk s H scope (compEnvC scope cl C X.env) fp) elt (te s H C cl fp) fe) (hsl : ∀ j ∈ sl, j ∈ own.map (·.2) := by decide) (hs : ∀ x, foldedSetIterable iter X.env x = pure x := by intro _; rfl) :
    DT X (.ListComp elt [⟨tg, iter, ifs, 0⟩] scope pos) (tLc wi (tgW X.kw G sl) (ttW X.kw ct) (teW X.kw fe) (own.map (·.2))) (eComp (own.map (·.2)) fi G ct fe) :=
  ⟨pe_lc hc hN hi.pi ok (fun s H C cl fp => pg_W (hg s H C cl fp)) (fun s H C cl fp => pts_W (ht s H C cl fp)) (fun s H C cl fp => pe_W (he s H C cl fp)) hs,
    ev_comp hi.ok ev_tgW hsl ev_ttW ev_teW⟩
theorem ds_setLc (hc : X.calm = true) (hN : X.N.Nodup) (hy : X.N[i]? = some y) (hyl : X.env.scope.names.lookup y = some .local)
    (hsw : swapsWith (.ListComp elt [⟨tg, iter, ifs, 0⟩] scope pos) (some (.Name y py)) spos.line X.env = pure true) (hi : DI X tg iter wi fi) (ok : BlkOk X.N X.env.scope scope own)
    (hg : ∀ (s : Shared) (H : Hp) (C : Addr) (cl : List (Str × Addr)) (fp : List Addr), DG (X.blk s H scope (compEnvC scope cl C X.env) fp) tg (g s H C cl fp) G sl) (ht : ∀ (s : Shared) (H : Hp) (C : Addr) (cl : List (Str × Addr)) (fp : List Addr), DTs (X.blk s H scope (compEnvC scope cl C X.env) fp) ifs (tt s H C cl fp) ct)
    (he : ∀ (s : Shared) (H : Hp) (C : Addr) (cl : List (Str × Addr)) (fp : List Addr), DT (X.blk s H scope (compEnvC scope cl C X.env) fp) elt (te s H C cl fp) fe) (hsl : ∀ j ∈ sl, j ∈ own.map (·.2) := by decide) (hs : ∀ x, foldedSetIterable iter X.env x = pure x := by intro _; rfl) :
    DS X (.Assign [.Name y py] (.ListComp elt [⟨tg, iter, ifs, 0⟩] scope pos) spos) (tAsg (tLc wi (tgW X.kw G sl) (ttW X.kw ct) (teW X.kw fe) (own.map (·.2))) (gName i)) (sSet i (eComp (own.map (·.2)) fi G ct fe)) [i] :=
  ⟨ps_setLc hc hN hy hyl hsw hi.pi ok (fun s H C cl fp => pg_W (hg s H C cl fp)) (fun s H C cl fp => pts_W (ht s H C cl fp)) (fun s H C cl fp => pe_W (he s H C cl fp)) hs,
    evs_set (ev_comp hi.ok ev_tgW hsl ev_ttW ev_teW)⟩
end
def enumD : Nat → List D → List D
  | _, [] => []
  | i, d :: ds => .tup [.int (i : Int), d] :: enumD (i + 1) ds
theorem enumD_len : ∀ (i : Nat) (ds : List D), (enumD i ds).length = ds.length
  | _, [] => rfl
  | i, d :: ds => by rw [enumD, List.length_cons, enumD_len, List.length_cons]
theorem enumD_get : ∀ (ds : List D) (k i : Nat) (d : D), (enumD k ds)[i]? = some d → ∃ x, ds[i]? = some x ∧ d = .tup [.int ((k + i : Nat) : Int), x]
  | [], _, _, _, h => by simp [enumD] at h
  | x :: ds, k, 0, d, h => by
    simp [enumD] at h
    exact ⟨x, rfl, h.symm⟩
  | x :: ds, k, i + 1, d, h => by
    obtain ⟨y, h1, h2⟩ := enumD_get ds (k + 1) i d (by simpa [enumD] using h)
    exact ⟨y, by simpa using h1, by rw [h2]; congr 4; omega⟩
def zipD : List D → List D → List D
  | d :: ds, e :: es => .tup [d, e] :: zipD ds es
  | _, _ => []
def signsD (s : Str) : List D := s.cps.toList.map fun c => .str ⟨#[c]⟩
section
variable {K : KW} {G1 : Hp} {a b : Addr} {ds es : List D} {xs ys : List V}
theorem itOk_e (h : SqL K G1 a xs) (hr : RpDs K G1 ds xs) : ItOk K G1 (Ite K a) (enumD 0 ds) where
  go := fun i H s hi => by
    rw [enumD_len] at hi
    exact ⟨xs, xs[i]'(by rw [hr.len]; exact hi), s.seq h, List.getElem?_eq_getElem _⟩
  stop := fun H s => ⟨xs, s.seq h, by rw [hr.len, enumD_len]; exact Nat.le_refl _⟩
  yld := fun i H x H' d s hd y => by
    obtain ⟨p, z, e1, e2, e3, e4⟩ := y
    obtain ⟨w, h1, h2⟩ := enumD_get _ _ _ _ hd
    obtain ⟨v, h3, h4⟩ := hr.get h1
    have := e4 xs (s.seq h)
    rw [h3] at this
    cases this
    refine .inr ⟨p, _, _, e2, e3, e1, h2, ?_⟩
    exact ⟨_, _, rfl, by rw [Nat.zero_add]; exact rfl, z, [], rfl, h4, rfl⟩
end
def iEn (f : AF) : IF := fun env => (f env).bind fun r => match r.1 with
  | [.p (.lst ds)] => some (enumD 0 ds, r.2)
  | _ => none
def iZp (f : AF) : IF := fun env => (f env).bind fun r => match r.1 with
  | [.p (.lst ds), .p (.lst es)] => some (zipD ds es, r.2)
  | [.p (.tup ds), .p (.tup es)] => some (zipD ds es, r.2)
  | _ => none
def iSg (f : EF) : IF := fun env => (f env).bind fun r => match r.1 with
  | .p (.str z) => some (signsD z, r.2)
  | _ => none
section
variable {X : Cx} {tg e e2 : Expr} {te : TE} {ta : TA} {f : EF} {fa : AF} {p pos tpos : Pos} {elts : List Expr} {kk : Nat}
theorem di_enum (hg : Gl X "enumerate") (hm : X.mg "enumerate" = none) (h : DA X [e] ta fa) (hs : starEach [e] X.env = [(false, eval e X.env)] := by rfl) :
    DI X (.Tuple elts kk tpos) (.Call (.Name "enumerate" p) [e] [] pos) (iEnum X.K ta) (iEn fa) := by
  refine ⟨pi_enum hg hm h.pa hs, ?_⟩
  intro G0 H0 W H ts vs env σ ds env' S g R r
  obtain ⟨⟨us, e1⟩, g1, g2⟩ := obind g
  refine h.ok _ _ _ _ _ _ _ _ _ _ S g1 _ fun ws H1 s1 hl S1 => ?_
  dsimp only at g2
  split at g2
  · rename_i es
    cases g2
    match ws, hl with
    | [w1], _ =>
      obtain ⟨G1, gst, sG, ⟨a, xs, q1, q2, q3⟩, S2⟩ := OkS.fixTop (show OkS X.kw G0 H0 W H1 (.p (.lst es) :: ts) (w1 :: vs) _ σ from S1)
      exact ⟨a, xs, by rw [q1], sG.seq (.inl q2), r _ _ G1 s1 gst (itOk_e (.inl q2) q3) S2⟩
  · cases g2
end
def gAdd : D → D → Option D
  | .int i, .int j => some (.int (i + j))
  | .str s, .str t => if s.length + t.length ≤ 16777216 then some (.str (s ++ t)) else none
  | _, _ => none
def rAddA : R2 := fun x y H Q => (rI0 fun i j => .int (i + j)) x y H Q ∨ ∃ i j, x = .str i ∧ y = .str j ∧ i.length + j.length ≤ sizeLine ∧ Q (.str (i ++ j)) H
theorem op_addA {X : Cx} : OpR X (binaryOp .Add) rAddA := OpR.or op_add op_add_str
theorem sc_add : Sc2 rAddA gAdd := by
  intro a b d h K H v w Q hv hw q
  unfold gAdd at h
  split at h
  · cases h; exact .inl ⟨_, _, hv, hw, q _ fun _ => rfl⟩
  · rename_i s t
    by_cases hs : s.length + t.length ≤ 16777216
    · rw [if_pos hs] at h; cases h
      exact .inr ⟨s, t, hv, hw, by rw [sizeLine_eq]; exact hs, q _ fun _ => rfl⟩
    · rw [if_neg hs] at h; cases h
  · cases h
end DL
namespace DL
open PySem PySem.Spec PyProof.Rows L2
def gSub : D → D → Option D := gI (fun _ _ => true) fun i j => i - j
def gAddI : D → D → Option D := gI (fun _ _ => true) fun i j => i + j
def gMul : D → D → Option D := gI mulOk fun i j => i * j
def gDiv : D → D → Option D := gI divOk fun i j => i / j
def gMod : D → D → Option D := gI modOk fun i j => i % j
def gPow : D → D → Option D := gI powOk fun i j => i ^ j.toNat
theorem modOk_ok {i j : Int} (h : modOk i j = true) : 0 < j := of_decide_eq_true h
def cLt : D → D → Option Bool := cmI fun i j => decide (i < j)
def cLe : D → D → Option Bool := cmI fun i j => decide (i ≤ j)
def cGt : D → D → Option Bool := cmI fun i j => decide (j < i)
def cGe : D → D → Option Bool := cmI fun i j => decide (j ≤ i)
def eNeg (f : EF) : EF := fun env => (f env).bind fun r => match r.1 with | .p (.int i) => some (.p (.int (-i)), r.2) | _ => none
section
variable {X : Cx} {a b e : Expr} {ta tb te : TE} {fa fb f : EF} {pos npos : Pos} {i : Nat} {x : Str}
theorem dt_add (ha : DT X a ta fa) (hb : DT X b tb fb) : DT X (.BinOp a .Add b pos) (tOp rAddA ta tb) (eOp gAdd fa fb) := dt_op op_addA sc_add ha hb
theorem dt_sub (ha : DT X a ta fa) (hb : DT X b tb fb) : DT X (.BinOp a .Sub b pos) (tOp (rI0 fun i j => .int (i - j)) ta tb) (eOp gSub fa fb) := dt_op op_sub sc_int0 ha hb
theorem dt_mul (ha : DT X a ta fa) (hb : DT X b tb fb) : DT X (.BinOp a .Mult b pos) (tOp (rI IntMulOk fun i j => .int (i * j)) ta tb) (eOp gMul fa fb) := dt_op op_mulB (sc_int fun _ _ h => mulOk_ok h) ha hb
theorem dt_div (ha : DT X a ta fa) (hb : DT X b tb fb) : DT X (.BinOp a .FloorDiv b pos) (tOp (rI CDivW fun i j => .int (i / j)) ta tb) (eOp gDiv fa fb) := dt_op op_fdivW (sc_int fun _ _ h => divOk_ok h) ha hb
theorem dt_mod (ha : DT X a ta fa) (hb : DT X b tb fb) : DT X (.BinOp a .Mod b pos) (tOp (rI (fun _ j => 0 < j) fun i j => .int (i % j)) ta tb) (eOp gMod fa fb) := dt_op op_mod (sc_int fun _ _ h => modOk_ok h) ha hb
theorem dt_pow (ha : DT X a ta fa) (hb : DT X b tb fb) : DT X (.BinOp a .Pow b pos) (tOp (rI CPow fun i j => .int (i ^ j.toNat)) ta tb) (eOp gPow fa fb) := dt_op op_pow (sc_int fun _ _ h => powOk_ok h) ha hb
theorem dt_eq (hu : X.A.units + 64 < cLine) (ha : DV X a ta fa) (hb : DV X b tb fb) : DT X (.Compare a [.Eq] [b] pos) (tOp (rEqA X.K) ta tb) (eCmp eqQ fa fb) := dt_cmp (op_eqA hu) cm_eq ha hb (nomark _)
theorem dt_is (ha : DV X a ta fa) (hb : DV X b tb fb) : DT X (.Compare a [.Is] [b] pos) (tOp (rIsA X.K) ta tb) (eCmp isN fa fb) := dt_cmp op_isA cm_is ha hb (nomark _)
theorem dc_lt (ha : DV X a ta fa) (hb : DV X b tb fb) : DC X (.Compare a [.Lt] [b] pos) (tTest (tOp (rI0 fun i j => .bl (decide (i < j))) ta tb)) (cT (eCmp cLt fa fb)) := dc_cmp (r := fun _ => rI0 fun i j => .bl (decide (i < j))) op_lt cm_int ha hb (nomark _)
theorem dc_gt (ha : DV X a ta fa) (hb : DV X b tb fb) : DC X (.Compare a [.Gt] [b] pos) (tTest (tOp (rI0 fun i j => .bl (decide (j < i))) ta tb)) (cT (eCmp cGt fa fb)) := dc_cmp (r := fun _ => rI0 fun i j => .bl (decide (j < i))) op_gt cm_int ha hb (nomark _)
theorem dc_eq (hu : X.A.units + 64 < cLine) (ha : DV X a ta fa) (hb : DV X b tb fb) : DC X (.Compare a [.Eq] [b] pos) (tTest (tOp (rEqA X.K) ta tb)) (cT (eCmp eqQ fa fb)) := dc_cmp (op_eqA hu) cm_eq ha hb (nomark _)
theorem dc_ne (hu : X.A.units + 64 < cLine) (ha : DV X a ta fa) (hb : DV X b tb fb) : DC X (.Compare a [.NotEq] [b] pos) (tTest (tOp (rNeA X.K) ta tb)) (cT (eCmp neQ fa fb)) := dc_cmp (op_neA hu) cm_ne ha hb (nomark _)
theorem dc_is (ha : DV X a ta fa) (hb : DV X b tb fb) : DC X (.Compare a [.Is] [b] pos) (tTest (tOp (rIsA X.K) ta tb)) (cT (eCmp isN fa fb)) := dc_cmp op_isA cm_is ha hb (nomark _)
theorem dt_len (hg : Gl X "len") (hm : X.mg "len" = none) (h : DV X a ta fa) (hs : starEach [a] X.env = (false, eval a X.env) :: starEach [] X.env := by rfl) : DT X (.Call (.Name "len" npos) [a] [] pos) (tCB (rLenA X.K) (tCons ta tNil)) (eB1 gLen fa) := dt_b1 call_lenA bi_len hg hm PySem.boot_len h hs
theorem dt_sum (hc : X.calm = true) (hg : Gl X "sum") (hm : X.mg "sum" = none) (h : DV X a ta fa) (hv : bootBuiltins "sum" = some (.builtin "sum") := by decide +kernel) (hs : starEach [a] X.env = (false, eval a X.env) :: starEach [] X.env := by rfl) : DT X (.Call (.Name "sum" npos) [a] [] pos) (tCB (rSum X.K) (tCons ta tNil)) (eB1 gSum fa) := dt_b1 (cr_sum hc) bi_sum hg hm hv h hs
end
theorem end_law {K : KW} {H : Hp} {a : Addr} {ns : List Int} {φ : List D → Option T} (h : φ [.lst (ns.map D.int)] = some (.p (.bl true))) (hS : Rd H a (.lst (ns.map V.int))) {E : XK} : spD 1 φ K [.ref a] H (fun v _ => v = .bl true) E := by
  refine ⟨[.lst (ns.map D.int)], _, H, rfl, h, Same.refl _, ⟨.ref a, [], rfl, ⟨a, _, rfl, hS, ?_⟩, rfl⟩, fun v G' H' o _ _ _ r _ _ _ => r.1⟩
  have gen : ∀ ns : List Int, RpDs K H (ns.map D.int) (ns.map V.int) := fun ns => by
    induction ns with
    | nil => rfl
    | cons n ns ih => exact ⟨.int n, _, rfl, rfl, ih⟩
  exact gen ns
end DL
namespace DL
open PySem PySem.Spec PyProof.Rows L2
def EvVs (K : KW) (ta : TA) (f : AF) : Prop := ∀ (G0 H0 : Hp) (W : List (T × V)) (H : Hp) (ts : List T) (vs : List V) (env : Env) (σ : St) (us : List T) (env' : Env), OkS K G0 H0 W H ts vs env σ → f env = some (us, env') →
  ∀ Q : List V → Hp → Prop, (∀ ws H', Same H H' → ws.length = us.length → OkS K G0 H0 (us.zip ws ++ W) H' ts vs env' σ → Q ws H') → ta σ H Q
structure DVs (X : Cx) (es : List Expr) (ta : TA) (f : AF) : Prop where
  pa : PA X es ta
  ok : EvVs X.kw ta f
section
variable {X : Cx} {e : Expr} {es : List Expr} {te : TE} {tr : TA} {f : EF} {fr : AF}
theorem OkS.views {K : KW} {G0 H0 H : Hp} {W W' : List (T × V)} {ts : List T} {vs : List V} {env : Env} {σ : St} (S : OkS K G0 H0 W H ts vs env σ) (h : ∀ q ∈ W', q ∈ W) : OkS K G0 H0 W' H ts vs env σ := by
  obtain ⟨G, ot, oe, s⟩ := S
  exact ⟨G, ot, oe, s.tmp, s.env, s.nd, s.fr, s.g0, s.gh, s.h0, s.nw, fun q hq => s.vw q (h q hq)⟩
theorem dvs_nil : DVs X [] tNil aN := by
  refine ⟨pa_nil, ?_⟩
  intro G0 H0 W H ts vs env σ us env' S e Q q
  cases e
  exact q [] H (Same.refl _) rfl S
theorem dvs_cons (h : DV X e te f) (hr : DVs X es tr fr) (hs : starEach (e :: es) X.env = (false, eval e X.env) :: starEach es X.env := by rfl) : DVs X (e :: es) (tCons te tr) (aC f fr) := by
  refine ⟨pa_cons h.pe hr.pa hs, ?_⟩
  intro G0 H0 W H ts vs env σ us env' S g Q q
  obtain ⟨⟨x, e1⟩, h1, h2⟩ := obind g
  obtain ⟨⟨y, e2⟩, h3, h4⟩ := omap h2
  cases h4
  refine h.ok _ _ _ _ _ _ _ _ _ _ S h1 _ fun v H1 s1 S1 => ?_
  refine hr.ok _ _ _ _ _ _ _ _ _ _ S1 h3 _ fun ws H2 s2 hl S2 => ?_
  refine q (v :: ws) H2 (s1.trans s2) (by simp [hl]) (S2.views fun q hq => ?_)
  simp only [List.zip_cons_cons, List.cons_append, List.mem_cons, List.mem_append] at hq ⊢
  rcases hq with h | h | h
  · exact .inr (.inl h)
  · exact .inl h
  · exact .inr (.inr h)
end
mutual
def cleanT : T → Bool
  | .p .non => true
  | .p (.bl _) => true
  | .p (.int _) => true
  | .p (.str _) => true
  | .p _ => false
  | .lst ts => cleanTs ts
  | .tup _ => false
  | _ => false
def cleanTs : List T → Bool
  | [] => true
  | t :: ts => cleanT t && cleanTs ts
end
section
variable {K : KW} {G G' H : Hp}
mutual
theorem Rp.clean : ∀ {t : T} {v : V} {o : List Addr}, cleanT t = true → Rp K G H t v o → Rp K G' H t v o
  | .p .non, _, _, _, h => h
  | .p (.bl _), _, _, _, h => h
  | .p (.int _), _, _, _, h => h
  | .p (.str _), _, _, _, h => h
  | .p (.lst _), _, _, c, _ => by cases c
  | .p (.tup _), _, _, c, _ => by cases c
  | .p (.dic _), _, _, c, _ => by cases c
  | .p (.dit _), _, _, c, _ => by cases c
  | .p (.obj _ _), _, _, c, _ => by cases c
  | .p (.al _), _, _, c, _ => by cases c
  | .lst ts, _, _, c, ⟨a, vs, o', h1, h2, h3, h4⟩ => ⟨a, vs, o', h1, h2, RpTs.clean (show cleanTs ts = true from c) h3, h4⟩
  | .tup _, _, _, c, _ => by cases c
  | .dic _, _, _, c, _ => by cases c
  | .dit _, _, _, c, _ => by cases c
  | .obj _ _, _, _, c, _ => by cases c
  | .box _ _, _, _, c, _ => by cases c
  | .al _, _, _, c, _ => by cases c
  | .din _, _, _, c, _ => by cases c
theorem RpTs.clean : ∀ {ts : List T} {vs : List V} {o : List Addr}, cleanTs ts = true → RpTs K G H ts vs o → RpTs K G' H ts vs o
  | [], _, _, _, h => h
  | t :: ts, _, _, c, ⟨v, r, o1, o2, h1, h2, h3, h4⟩ => by
    have c' : (cleanT t && cleanTs ts) = true := c
    rw [Bool.and_eq_true] at c'
    exact ⟨v, r, o1, o2, h1, Rp.clean c'.1 h2, RpTs.clean c'.2 h3, h4⟩
end
end
def eCallB (φ : List D → Option T) (fa : AF) : EF := fun env => (fa env).bind fun r => (φ (T.toDs r.1)).bind fun t => if cleanT t then some (t, r.2) else none
theorem rpDs_views {K : KW} {H : Hp} : ∀ {us : List T} {ws : List V}, ws.length = us.length → (∀ q ∈ us.zip ws, RpD K H q.1.toD q.2) → RpDs K H (T.toDs us) ws
  | [], [], _, _ => rfl
  | u :: us, w :: ws, hl, h => ⟨w, ws, rfl, h (u, w) (by simp), rpDs_views (by simpa using hl) fun q hq => h q (by simp [hq])⟩
  | [], _ :: _, hl, _ => by simp at hl
  | _ :: _, [], hl, _ => by simp at hl
theorem ev_callB {K : KW} {n : Nat} {φ : List D → Option T} {ta : TA} {fa : AF} (hφ : ∀ ds t, φ ds = some t → ds.length = n) (ha : EvVs K ta fa) : EvT K (tCall (spD n φ K) [] E0 ta) (eCallB φ fa) := by
  intro G0 H0 W H ts vs env σ t env' S g Q q
  obtain ⟨⟨us, e1⟩, g1, g2⟩ := obind g
  obtain ⟨t', g3, g4⟩ := obind g2
  by_cases hc : cleanT t' = true
  · rw [if_pos hc] at g4
    cases g4
    refine ha _ _ _ _ _ _ _ _ _ _ S g1 _ fun ws H1 s1 hl S1 => ?_
    have hds := rpDs_views hl fun q hq => S1.see (List.mem_append_left _ hq)
    have S2 := S1.views (W' := W) fun q hq => List.mem_append_right _ hq
    obtain ⟨G, ot, oe, s⟩ := S2
    refine ⟨T.toDs us, t, H1, hφ _ _ g3, g3, Same.refl _, by rw [List.append_nil]; exact hds, fun v G' H' o h1 h2 h3 h4 h5 h6 h7 => ?_⟩
    refine q v H' (s1.trans h3) (OkS.called s (Same.refl G) (fun b u e => h3 b u (s.gh b u e)) h3 (h4.clean hc) h5 (fun a ha => ⟨Same.none s.gh (h6 a ha).2, (h6 a ha).2⟩) fun a u e => .inl (by rw [e]; simp))
  · rw [if_neg hc] at g4; cases g4
theorem dt_callB {X : Cx} {k : Nat} {f : Addr} {fd : FuncData} {ps : List Str} {n : Nat} {φ : List D → Option T} {x : Str} {p pos : Pos} {e : Expr} {es : List Expr} {ta : TA} {fa : AF}
    (hφ : ∀ ds t, φ ds = some t → ds.length = n) (F : FnOk X.prog X.w X.K X.mg X.base CX0 k f fd ps (spD n φ X.kw)) (hr : Room k X.A) (hg : Gl X x) (hm : X.mg x = some (.ref f)) (hk : PySem.W.keepIn X.K (.ref f) = true) (hb : Binds X.K fd ps [])
    (ha : DVs X (e :: es) ta fa) (hdb : (x == ("__debug__" : Str)) = false := by decide) (he : starEach (e :: es) X.env = (false, eval e X.env) :: starEach es X.env := by rfl) (hpl : (backTo pos (starEach es X.env)).any (·.1) = false := by rfl) :
    DT X (.Call (.Name x p) (e :: es) [] pos) (tCall (spD n φ X.kw) [] E0 ta) (eCallB φ fa) := ⟨pe_call F hr hg hm hk hb .nil pass0 ha.pa hdb he hpl, ev_callB hφ ha.ok⟩
def sForV (i : Nat) (G : GF) (body : SF) : SF := fun env => (atL env i).bind fun us => (allP us).bind fun ds => (loopD G body ds (env.set i none)).map fun r => (r.1, match r.1 with
  | .rt _ => r.2
  | _ => r.2.set i (some (.lst us)))
end DL
namespace DL
open PySem PySem.Spec PyProof.Rows L2
section
variable {env : Env} {i j : Int} {a b : D} {t : T} {f g : EF}
theorem gAdd_i : gAdd (.int i) (.int j) = some (.int (i + j)) := rfl
theorem gAdd_s {s u : Str} (h : s.length + u.length ≤ 16777216) : gAdd (.str s) (.str u) = some (.str (s ++ u)) := if_pos h
theorem gSub_i : gSub (.int i) (.int j) = some (.int (i - j)) := rfl
theorem gAddI_i : gAddI (.int i) (.int j) = some (.int (i + j)) := rfl
theorem gMul_l (h1 : -18446744073709551616 < i) (h2 : i < 18446744073709551616) : gMul (.int i) (.int j) = some (.int (i * j)) := if_pos (by unfold mulOk; exact decide_eq_true (.inl ⟨h1, h2⟩))
theorem gMul_r (h1 : -18446744073709551616 < j) (h2 : j < 18446744073709551616) : gMul (.int i) (.int j) = some (.int (i * j)) := if_pos (by unfold mulOk; exact decide_eq_true (.inr (.inl ⟨h1, h2⟩)))
theorem gDiv_i (h1 : 0 < j) (h2 : j < 1606938044258990275541962092341162602522202993782792835301376) : gDiv (.int i) (.int j) = some (.int (i / j)) := if_pos (by unfold divOk; exact decide_eq_true ⟨h1, h2⟩)
theorem gMod_i (h1 : 0 < j) : gMod (.int i) (.int j) = some (.int (i % j)) := if_pos (by unfold modOk; exact decide_eq_true h1)
theorem gPow_i (h1 : 0 ≤ j) (h2 : j ≤ 1000) (h3 : 0 ≤ i) (h4 : i < 18446744073709551616) : gPow (.int i) (.int j) = some (.int (i ^ j.toNat)) := if_pos (by unfold powOk; exact decide_eq_true ⟨h1, h2, h3, h4⟩)
theorem cLt_i : cLt (.int i) (.int j) = some (decide (i < j)) := rfl
theorem cLe_i : cLe (.int i) (.int j) = some (decide (i ≤ j)) := rfl
theorem cGt_i : cGt (.int i) (.int j) = some (decide (j < i)) := rfl
theorem cGe_i : cGe (.int i) (.int j) = some (decide (j ≤ i)) := rfl
theorem eqQ_i : eqQ (.int i) (.int j) = some (decide (i = j)) := by
  show (if scal (.int i) (.int j) = true then some (decide (V.int i = V.int j)) else none) = _
  rw [if_pos (show scal _ _ = true from rfl)]
  simp
theorem neQ_i : neQ (.int i) (.int j) = some (!decide (i = j)) := by unfold neQ; rw [eqQ_i]; rfl
theorem eqQ_s {s u : Str} : eqQ (.str s) (.str u) = some (decide (s = u)) := by
  show (if scal (.str s) (.str u) = true then some (decide (V.str s = V.str u)) else none) = _
  rw [if_pos (show scal _ _ = true from rfl)]
  simp
theorem eqQ_b {s u : Bool} : eqQ (.bl s) (.bl u) = some (decide (s = u)) := by
  show (if scal (.bl s) (.bl u) = true then some (decide (V.bl s = V.bl u)) else none) = _
  rw [if_pos (show scal _ _ = true from rfl)]
  simp
theorem neQ_b {s u : Bool} : neQ (.bl s) (.bl u) = some (!decide (s = u)) := by unfold neQ; rw [eqQ_b]; rfl
theorem toPys_ints : ∀ ns : List Int, toPys (ns.map D.int) = some (ns.map PyData.int)
  | [] => rfl
  | n :: ns => by
    show (toPy (.int n)).bind (fun p => (toPys (ns.map D.int)).map (p :: ·)) = _
    rw [toPys_ints ns]; rfl
theorem canLay_ints : ∀ ns : List Int, PyData.canLayAll0 (ns.map PyData.int) = true
  | [] => rfl
  | n :: ns => by show (PyData.canLay0 (.int n) && PyData.canLayAll0 (ns.map PyData.int)) = true; rw [canLay_ints ns]; rfl
theorem depth_ints : ∀ ns : List Int, PyData.depthAll (ns.map PyData.int) = 0
  | [] => rfl
  | n :: ns => by show max (PyData.depth (.int n)) (PyData.depthAll (ns.map PyData.int)) = 0; rw [depth_ints ns]; rfl
theorem shaped_ints (ns : List Int) : SeqAt.shaped (.list (ns.map PyData.int)) = true := by
  unfold SeqAt.shaped
  rw [show PyData.canLay0 (.list (ns.map PyData.int)) = PyData.canLayAll0 (ns.map PyData.int) from rfl, canLay_ints, show PyData.depth (.list (ns.map PyData.int)) = PyData.depthAll (ns.map PyData.int) + 1 from rfl, depth_ints]
  rfl
theorem eqvAll_ints : ∀ ns ms : List Int, PyData.eqvAll (ns.map PyData.int) (ms.map PyData.int) = decide (ns = ms)
  | [], [] => rfl
  | [], m :: ms => rfl
  | n :: ns, [] => rfl
  | n :: ns, m :: ms => by
    show (PyData.eqv (.int n) (.int m) && PyData.eqvAll (ns.map PyData.int) (ms.map PyData.int)) = _
    rw [eqvAll_ints ns ms]
    show ((n == m) && decide (ns = ms)) = _
    rw [Bool.eq_iff_iff]; simp
theorem eqQ_ints {ns ms : List Int} : eqQ (.lst (ns.map D.int)) (.lst (ms.map D.int)) = some (decide (ns = ms)) := by
  show eqDeep _ _ = _
  unfold eqDeep
  rw [show toPy (.lst (ns.map D.int)) = some (.list (ns.map PyData.int)) by show (toPys _).map _ = _; rw [toPys_ints]; rfl, show toPy (.lst (ms.map D.int)) = some (.list (ms.map PyData.int)) by show (toPys _).map _ = _; rw [toPys_ints]; rfl]
  show (if (SeqAt.shaped _ && SeqAt.shaped _) = true then some (PyData.eqv _ _) else none) = _
  rw [shaped_ints, shaped_ints, if_pos (show (true && true) = true from rfl)]
  exact congrArg some (eqvAll_ints ns ms)
theorem neQ_ints {ns ms : List Int} : neQ (.lst (ns.map D.int)) (.lst (ms.map D.int)) = some (!decide (ns = ms)) := by unfold neQ; rw [eqQ_ints]; rfl
theorem allP_map (ds : List D) : allP (ds.map T.p) = some ds := by
  induction ds with
  | nil => rfl
  | cons d ds ih => simp [allP, ih]
theorem itemsT_l {ds : List D} : itemsT (.lst (ds.map T.p)) = some ds := allP_map ds
theorem toD_l {ds : List D} : (T.lst (ds.map T.p)).toD = .lst ds := by show D.lst (T.toDs _) = _; rw [toDs_p]
theorem gSum_p {ns : List Int} : gSum (.p (.lst (ns.map D.int))) = some (.int ns.sum) := by
  show (intsD (ns.map D.int)).map _ = _
  rw [intsD_map]; rfl
theorem gSum_l {ns : List Int} : gSum (.lst ((ns.map D.int).map T.p)) = some (.int ns.sum) := by
  unfold gSum
  rw [toD_l]
  show (intsD (ns.map D.int)).map _ = _
  rw [intsD_map]; rfl
theorem gLen_p {ds : List D} : gLen (.p (.lst ds)) = some (.int ds.length) := rfl
theorem gLen_l {ts : List T} : gLen (.lst ts) = some (.int ts.length) := rfl
end
theorem atI_0 {α : Type} {x0 : α} {xs : List α} : atI (x0 :: xs) 0 = some x0 := atI_nat (j := 0) rfl
theorem atI_1 {α : Type} {x0 x1 : α} {xs : List α} : atI (x0 :: x1 :: xs) 1 = some x1 := atI_nat (j := 1) rfl
theorem atI_2 {α : Type} {x0 x1 x2 : α} {xs : List α} : atI (x0 :: x1 :: x2 :: xs) 2 = some x2 := atI_nat (j := 2) rfl
theorem atI_3 {α : Type} {x0 x1 x2 x3 : α} {xs : List α} : atI (x0 :: x1 :: x2 :: x3 :: xs) 3 = some x3 := atI_nat (j := 3) rfl
theorem atI_4 {α : Type} {x0 x1 x2 x3 x4 : α} {xs : List α} : atI (x0 :: x1 :: x2 :: x3 :: x4 :: xs) 4 = some x4 := atI_nat (j := 4) rfl
theorem atI_5 {α : Type} {x0 x1 x2 x3 x4 x5 : α} {xs : List α} : atI (x0 :: x1 :: x2 :: x3 :: x4 :: x5 :: xs) 5 = some x5 := atI_nat (j := 5) rfl
theorem atI_6 {α : Type} {x0 x1 x2 x3 x4 x5 x6 : α} {xs : List α} : atI (x0 :: x1 :: x2 :: x3 :: x4 :: x5 :: x6 :: xs) 6 = some x6 := atI_nat (j := 6) rfl
theorem ixT_lst {ts : List T} {i : Int} : ixT (.lst ts) i = atI ts i := rfl
theorem ixT_pl {ds : List D} {i : Int} : ixT (.p (.lst ds)) i = (atI ds i).map T.p := rfl
theorem ixT_pt {ds : List D} {i : Int} : ixT (.p (.tup ds)) i = (atI ds i).map T.p := rfl
theorem atI_map {α β : Type} (f : α → β) (xs : List α) (i : Int) : atI (xs.map f) i = (atI xs i).map f := by
  unfold atI
  rw [List.length_map]
  cases ixN xs.length i with
  | none => rfl
  | some j => show (xs.map f)[j]? = (xs[j]?).map f; rw [List.getElem?_map]
theorem kit_ii : kitB "int" "int" = some true := by decide +kernel
theorem kit_ib : kitB "int" "bool" = some false := by decide +kernel
theorem kit_ll : kitB "list" "list" = some true := by decide +kernel
theorem kit_bb : kitB "bool" "bool" = some true := by decide +kernel
theorem kit_bi : kitB "bool" "int" = some true := by decide +kernel
theorem kit_ss : kitB "str" "str" = some true := by decide +kernel
theorem kit_tt : kitB "tuple" "tuple" = some true := by decide +kernel
theorem kit_tl : kitB "tuple" "list" = some false := by decide +kernel
theorem kit_lt : kitB "list" "tuple" = some false := by decide +kernel
theorem kit_ls : kitB "list" "str" = some false := by decide +kernel
theorem kit_li : kitB "list" "int" = some false := by decide +kernel
theorem kit_lb : kitB "list" "bool" = some false := by decide +kernel
theorem kit_is : kitB "int" "str" = some false := by decide +kernel
theorem kit_si : kitB "str" "int" = some false := by decide +kernel
theorem kit_sb : kitB "str" "bool" = some false := by decide +kernel
theorem kit_ti : kitB "tuple" "int" = some false := by decide +kernel
theorem kit_tb : kitB "tuple" "bool" = some false := by decide +kernel
theorem kit_ts : kitB "tuple" "str" = some false := by decide +kernel
end DL
namespace DL
open PySem PySem.Spec PyProof.Rows L2
def strsD : List D → Option (List Str)
  | [] => some []
  | .str s :: r => (strsD r).map (s :: ·)
  | _ => none
theorem strsD_eq : ∀ {ds : List D} {ss : List Str}, strsD ds = some ss → ds = ss.map D.str
  | [], ss, h => by cases h; rfl
  | .str s :: r, ss, h => by
    obtain ⟨ms, h1, h2⟩ := omap (show (strsD r).map (s :: ·) = some ss from h)
    subst h2
    rw [strsD_eq h1]; rfl
  | .non :: _, _, h => by cases h
  | .bl _ :: _, _, h => by cases h
  | .int _ :: _, _, h => by cases h
  | .lst _ :: _, _, h => by cases h
  | .tup _ :: _, _, h => by cases h
  | .dic _ :: _, _, h => by cases h
theorem rpDs_strs_eq {K : KW} {G : Hp} : ∀ {ss : List Str} {vs : List V}, RpDs K G (ss.map D.str) vs → vs = ss.map V.str
  | [], vs, h => h
  | n :: ns, vs, ⟨v, r, h1, h2, h3⟩ => by rw [h1, show v = _ from h2, rpDs_strs_eq h3]; rfl
def eM1 (g : Str → Str → Option D) (fo fe : EF) : EF := fun env => (fo env).bind fun x => (fe x.2).bind fun y => match x.1, y.1 with
  | .p (.str a), .p (.str b) => (g a b).map fun d => (.p d, y.2)
  | _, _ => none
section
variable {X : Cx} {o e a b : Expr} {to te ta tb : TE} {fo fe fa fb : EF} {apos pos : Pos}
def gStarts (a b : Str) : Option D := some (.bl (Txt.startswith a b))
def gFind (a b : Str) : Option D := some (.int (Txt.find a b))
def eSplit (fo fe : EF) : EF := fun env => (fo env).bind fun x => (fe x.2).bind fun y => match x.1, y.1 with
  | .p (.str a), .p (.str b) => if (b.length == 0) = false ∧ a.length + 2 ≤ 16777216 then some (.lst (((Txt.split a b).map D.str).map T.p), y.2) else none
  | _, _ => none
def eJoin (fo fe : EF) : EF := fun env => (fo env).bind fun x => (fe x.2).bind fun y => match x.1 with
  | .p (.str a) => (itemsT y.1).bind fun ds => (strsD ds).bind fun ys => if (ys.map (·.length)).sum + ys.length * a.length ≤ 16777216 then some (.p (.str (Txt.join a ys)), y.2) else none
  | _ => none
theorem dt_join (ho : DT X o to fo) (he : DV X e te fe) (hs : starEach [e] X.env = [(false, eval e X.env)] := by rfl) (hbase : attributeBase o "join" X.env (eval o X.env) = eval o X.env := by rfl) (hline : (apos.endLine == pos.line) = true := by rfl) :
    DT X (.Call (.Attribute o "join" apos) [e] [] pos) (tM1 (fun x xs H Q => ∃ a p, ∃ ys : List Str, x = .str a ∧ xs = [.ref p] ∧ (SqL X.K H p (ys.map V.str) ∨ SqT X.K H p (ys.map V.str)) ∧
      (ys.map (·.length)).sum + ys.length * a.length ≤ 16777216 ∧ Q (.str (Txt.join a ys)) H) to te) (eJoin fo fe) := by
  refine ⟨pe_join ho.pe he.pe hs hbase hline, ?_⟩
  intro G0 H0 W H ts vs env σ t env' S h Q q
  obtain ⟨⟨x, e1⟩, h1, h2⟩ := obind h
  obtain ⟨⟨y, e2⟩, h3, h4⟩ := obind h2
  dsimp only at h4
  split at h4
  · rename_i a
    obtain ⟨ds, h5, h6⟩ := obind h4
    obtain ⟨ys, h7, h8⟩ := obind h6
    by_cases hc : (ys.map (·.length)).sum + ys.length * a.length ≤ 16777216
    · rw [if_pos hc] at h8
      cases h8
      refine ho.ok _ _ _ _ _ _ _ _ _ _ S h1 _ fun v H1 s1 S1 => ?_
      have ev : v = .str a := S1.top
      refine ⟨⟨a, ev⟩, ?_⟩
      refine he.ok _ _ _ _ _ _ _ _ _ _ S1 h3 _ fun w H2 s2 S2 => ?_
      obtain ⟨p, xs, rfl, k1, k2, k3, S3⟩ := S2.items h5
      have ed := strsD_eq h7
      subst ed
      have ex : xs = ys.map V.str := by
        obtain ⟨G, ot, oe, s⟩ := S3
        obtain ⟨o1, o2, r1, _, _⟩ := s.tmp.split (by simpa using k3)
        exact rpDs_strs_eq (rpDs_of r1).1
      subst ex
      refine ⟨a, p, ys, ev, rfl, ?_, hc, q _ H2 (s1.trans s2) (S2.unview.pop.scal fun _ => rfl)⟩
      cases hk : isLT y with
      | true => exact .inl (k1 hk)
      | false => exact .inr (k2 hk)
    · rw [if_neg hc] at h8; cases h8
  · cases h4
end
def repS (z : Str) (n : Int) : Str := ⟨((List.replicate n.toNat z.cps.toList).flatten).toArray⟩
theorem foldl_arr (c : Array Nat) : ∀ (k : Nat) (acc : Array Nat), (List.replicate k c).foldl (· ++ ·) acc = acc ++ ((List.replicate k c.toList).flatten).toArray
  | 0, acc => by simp
  | k + 1, acc => by
    rw [List.replicate_succ, List.foldl_cons, foldl_arr c k, List.replicate_succ, List.flatten_cons]
    apply Array.toList_inj.mp
    simp
theorem op_mulS {X : Cx} : OpR X (binaryOp .Mult) (fun x y H Q => ∃ z n, x = .str z ∧ y = .int n ∧ -1000000000 < n ∧ n < 1000000000 ∧ z.length * n.toNat ≤ 16777216 ∧ Q (.str (repS z n)) H) := by
  intro pins s σ H x y v u Q I rx ry h
  obtain ⟨z, n, rfl, rfl, h1, h2, h3, q⟩ := h
  obtain ⟨t, rfl⟩ := rx
  obtain ⟨t', rfl⟩ := ry
  have fin : ∀ (r : Str) (tk : Tok), r = repS z n → EP X pins σ Q (.str r tk) { s with toks := s.toks + 1 } := fun r tk e => ⟨.str r, H, I.tok _, ⟨_, rfl⟩, by rw [e]; exact q⟩
  refine PySem.P.mul_str (by rw [decide_eq_false (by omega), decide_eq_false (by omega)]; rfl) (fun hn hz => ?_) (fun hn hz => ?_) ?_
  · intro z0
    have hn0 : 0 < n := by omega
    have hd : (2 ^ 63 - 1 : Int) / n < z.length := z0
    have hd2 : (2 ^ 63 - 1 : Int) < (z.length : Int) * n := by
      have := Int.lt_mul_of_ediv_lt hn0 hd
      exact this
    have h4 : ((z.length * n.toNat : Nat) : Int) = (z.length : Int) * n := by
      rw [Int.natCast_mul, Int.toNat_of_nonneg (by omega)]
    omega
  · exact decide_eq_false (by rw [sizeLine_eq]; omega)
  · by_cases hn : n < 1
    · rw [if_pos hn]
      refine ⟨by decide, ?_⟩
      have e : repS z n = Str.empty := by
        unfold repS
        rw [show n.toNat = 0 by omega]; rfl
      exact fin _ _ e.symm
    · rw [if_neg hn]
      by_cases hz : (n == 1 || z.length == 0) = true
      · rw [if_pos hz]
        refine ⟨.str z, H, I, ⟨t, rfl⟩, ?_⟩
        have e : repS z n = z := by
          apply TL.ext_tl
          show (List.replicate n.toNat z.cps.toList).flatten = z.cps.toList
          rw [Bool.or_eq_true] at hz
          rcases hz with hz | hz
          · have : n = 1 := by simpa using hz
            subst this
            simp
          · have : z.cps.toList = [] := by
              have := eq_of_beq hz
              rw [TL.len_tl] at this
              exact List.eq_nil_of_length_eq_zero this
            rw [this]; simp
        rw [e] at q; exact q
      · rw [if_neg hz]
        have e : (⟨(List.replicate n.toNat z.cps).foldl (· ++ ·) #[]⟩ : Str) = repS z n := by
          unfold repS
          rw [foldl_arr]
          simp
        rw [e]
        refine ⟨?_, fin _ _ rfl⟩
        rw [sizeLine_eq, TL.len_tl]
        show (List.replicate n.toNat z.cps.toList).flatten.length ≤ _
        rw [List.length_flatten, List.map_replicate, List.sum_replicate_nat]
        have : z.length = z.cps.toList.length := TL.len_tl z
        rw [this, Nat.mul_comm] at h3
        exact h3
def rMulA : R2 := fun x y H Q => (rI IntMulOk fun i j => .int (i * j)) x y H Q ∨ ∃ z n, x = .str z ∧ y = .int n ∧ -1000000000 < n ∧ n < 1000000000 ∧ z.length * n.toNat ≤ 16777216 ∧ Q (.str (repS z n)) H
theorem op_mulA {X : Cx} : OpR X (binaryOp .Mult) rMulA := OpR.or op_mulB op_mulS
def gMulA : D → D → Option D
  | .int i, .int j => gMul (.int i) (.int j)
  | .str z, .int n => if -1000000000 < n ∧ n < 1000000000 ∧ z.length * n.toNat ≤ 16777216 then some (.str (repS z n)) else none
  | _, _ => none
theorem sc_mulA : Sc2 rMulA gMulA := by
  intro a b d h K H v w Q hv hw q
  unfold gMulA at h
  split at h
  · exact .inl (sc_int (fun _ _ h => mulOk_ok h) _ _ d h K H v w Q hv hw q)
  · rename_i z n
    by_cases hc : -1000000000 < n ∧ n < 1000000000 ∧ z.length * n.toNat ≤ 16777216
    · rw [if_pos hc] at h; cases h
      exact .inr ⟨z, n, hv, hw, hc.1, hc.2.1, hc.2.2, q _ fun _ => rfl⟩
    · rw [if_neg hc] at h; cases h
  · cases h
theorem dt_mulA {X : Cx} {a b : Expr} {ta tb : TE} {fa fb : EF} {pos : Pos} (ha : DT X a ta fa) (hb : DT X b tb fb) : DT X (.BinOp a .Mult b pos) (tOp rMulA ta tb) (eOp gMulA fa fb) := dt_op op_mulA sc_mulA ha hb
def rCatA : R2 := fun x y H Q => ∃ l b xs zs, x = .ref l ∧ y = .ref b ∧ Rd H l (.lst xs) ∧ Rd H b (.lst zs) ∧ xs.length + zs.length ≤ sizeLine ∧ ∀ p, H p = none → Q (.ref p) (upd H p (.lst (xs ++ zs)))
theorem op_catA {X : Cx} : OpR X (binaryOp .Add) rCatA := by
  intro pins s σ H x y v u Q I rx ry h
  obtain ⟨l, b, xs, zs, rfl, rfl, hH, hB, hz, q⟩ := h
  cases rx
  cases ry
  obtain ⟨z, its, n, r, e⟩ := (show ObjOk X.prog X.w H s.heap l (.lst xs) from hH.ok I.hok)
  obtain ⟨z2, its2, n2, r2, e2⟩ := (show ObjOk X.prog X.w H s.heap b (.lst zs) from hB.ok I.hok)
  have hl := r.length
  have hl2 := r2.length
  refine PySem.P.add_list e e2 ?_ (by rw [List.size_toArray, List.size_toArray]; omega)
  have ea : its.toArray ++ its2.toArray = (its ++ its2).toArray := by simp
  rw [ea]
  exact ⟨.ref _, _, I.lnew (t' := s.toks) (r.append r2) (by rw [List.length_append]; omega), rfl, q _ I.fresh⟩
theorem St0.rdL {K : KW} {G0 H0 G H : Hp} {W : List (T × V)} {ts : List T} {vs : List V} {env : Env} {σ : St} {ot oe : List Addr} {t : T} {v : V} {ds : List D} (s : St0 K G0 H0 W G H ts vs env σ ot oe) (hq : (t, v) ∈ W) (h : itemsT t = some ds) (hl : isLT t = true) :
    ∃ a xs, v = .ref a ∧ Rd H a (.lst xs) ∧ RpDs K G ds xs := by
  obtain ⟨o, r⟩ := s.vw (t, v) hq
  cases t with
  | p d =>
    cases d with
    | lst ds' =>
      cases h
      obtain ⟨⟨a, xs, e1, e2, e3⟩, _⟩ := r
      exact ⟨a, xs, e1, Same.rd s.gh e2, e3⟩
    | tup ds' => cases hl
    | _ => cases h
  | lst us =>
    have e := allP_eq (show allP us = some ds from h)
    subst e
    obtain ⟨a, xs, o', e1, e2, e3, e4⟩ := r
    exact ⟨a, xs, e1, .inl e2, (rpDs_of e3).1⟩
  | tup us => cases hl
  | dic us => cases h
  | dit us => cases h
  | obj _ _ => cases h
  | box _ _ => cases h
  | al _ => cases h
  | din _ => cases h
def eCat (fa fb : EF) : EF := fun env => (fa env).bind fun x => (fb x.2).bind fun y => (itemsT x.1).bind fun ds => (itemsT y.1).bind fun es =>
  if isLT x.1 = true ∧ isLT y.1 = true ∧ ds.length + es.length ≤ 16777216 then some (.lst ((ds ++ es).map T.p), y.2) else none
theorem dt_cat {X : Cx} {a b : Expr} {ta tb : TE} {fa fb : EF} {pos : Pos} (ha : DV X a ta fa) (hb : DV X b tb fb) : DT X (.BinOp a .Add b pos) (tOp rCatA ta tb) (eCat fa fb) := by
  refine ⟨pe_op op_catA ha.pe hb.pe, ?_⟩
  intro G0 H0 W H ts vs env σ t env' S g Q q
  obtain ⟨⟨x, e1⟩, h1, h2⟩ := obind g
  obtain ⟨⟨y, e2⟩, h3, h4⟩ := obind h2
  obtain ⟨ds, h5, h6⟩ := obind h4
  obtain ⟨es, h7, h8⟩ := obind h6
  by_cases hc : isLT x = true ∧ isLT y = true ∧ ds.length + es.length ≤ 16777216
  · rw [if_pos hc] at h8
    cases h8
    refine ha.ok _ _ _ _ _ _ _ _ _ _ S h1 _ fun v H1 s1 S1 => ?_
    refine hb.ok _ _ _ _ _ _ _ _ _ _ S1 h3 _ fun w H2 s2 S2 => ?_
    obtain ⟨G, ot, oe, s⟩ := S2
    obtain ⟨l, xs, e1, r1, d1⟩ := s.rdL (t := x) (v := v) (by simp) h5 hc.1
    obtain ⟨b, zs, e2, r2, d2⟩ := s.rdL (t := y) (v := w) (by simp) h7 hc.2.1
    refine ⟨l, b, xs, zs, e1, e2, r1, r2, by rw [sizeLine_eq, d1.len, d2.len]; exact hc.2.2, fun p hp => ?_⟩
    have dd := d1.append d2
    have s' : St0 X.kw G0 H0 W G H2 ts vs _ σ ot oe := ⟨s.tmp, s.env, s.nd, s.fr, s.g0, s.gh, s.h0, s.nw, fun q hq => s.vw q (List.mem_cons_of_mem _ (List.mem_cons_of_mem _ hq))⟩
    exact q _ _ ((s1.trans s2).trans (same_upd hp)) (OkS.newL (by rw [List.length_map]; exact dd.len) (OkS.pushD s' dd) hp)
  · rw [if_neg hc] at h8; cases h8
def eFz (f : EF) : EF := fun env => (f env).map fun r => (.p r.1.toD, r.2)
theorem dt_fz {X : Cx} {e : Expr} {te : TE} {f : EF} (h : DT X e te f) : DT X e te (eFz f) := by
  refine ⟨h.pe, ?_⟩
  intro G0 H0 W H ts vs env σ t env' S g Q q
  obtain ⟨⟨x, e1⟩, h1, h2⟩ := omap g
  cases h2
  exact h.ok _ _ _ _ _ _ _ _ _ _ S h1 _ fun v H1 s1 S1 => q v H1 s1 S1.frz
theorem fn_none {P : Program} {w : World} {K : KW} {mg : Str → Option Value} {base : Heap} {k : Nat} {f : Addr} {fd : FuncData} {ps : List Str} {n : Nat} : FnOk K.P K.w K mg base CX0 k f fd ps (spD n (fun _ => none) K) :=
  ⟨fun _ _ _ _ ⟨_, _, _, _, h, _⟩ => (nomatch h), fun _ _ _ _ _ _ _ _ _ _ _ _ _ ⟨_, _, _, _, h, _⟩ => (nomatch h)⟩
def aMv (i : Nat) (r : AF) : AF := fun env => match env[i]? with
  | some (some _) => (r env).bind fun y => match y.2[i]? with
    | some (some t) => some (t :: y.1, y.2.set i none)
    | _ => none
  | _ => none
def Less (K K' : PySem.W.Frag) : Prop := ∀ (b : Addr) (o : Obj), K.lookup b = some o → ¬ (o.cls = .type "list" ∧ ∃ its n, o.data = .seq its n) → K'.lookup b = some o
section
variable {K K' : PySem.W.Frag}
theorem Less.refl (K : PySem.W.Frag) : Less K K := fun _ _ e _ => e
theorem Less.fn (L : Less K K') {f : Addr} {oc : Value} {od : Option Addr} {fd : FuncData} {sl : Array (Option Value)} (h : K.lookup f = some ⟨oc, od, .func fd, sl⟩) : K'.lookup f = some ⟨oc, od, .func fd, sl⟩ := L _ _ h fun ⟨_, _, _, e⟩ => nomatch e
theorem Less.code (L : Less K K') {cd : Value} {z : Str} (h : PySem.W.codeIn K cd z = true) : PySem.W.codeIn K' cd z = true := by
  unfold PySem.W.codeIn at h ⊢
  cases cd with
  | ref c =>
    dsimp only at h ⊢
    split at h
    · rename_i e
      rw [L _ _ e fun ⟨_, _, _, e⟩ => nomatch e]
      exact h
    · cases h
  | _ => cases h
theorem Less.keep (L : Less K K') {f : Addr} {oc : Value} {od : Option Addr} {fd : FuncData} {sl : Array (Option Value)} (h : K.lookup f = some ⟨oc, od, .func fd, sl⟩) : PySem.W.keepIn K' (.ref f) = true := by
  unfold PySem.W.keepIn
  dsimp only
  rw [L.fn h]
theorem Less.fun {x qual : Str} {st : Stmt} {f : Addr} {fd : FuncData} (L : Less K K') (F : Fun K x qual st f fd) : Fun K' x qual st f fd := by
  obtain ⟨oc, od, kV, doc, pm, an, cdv, ct, osl, e, lk, hcd⟩ := F.ex
  exact ⟨⟨oc, od, kV, doc, pm, an, cdv, ct, osl, e, L.fn lk, L.code hcd⟩, L.keep lk⟩
theorem look_filter (a : Addr) : ∀ (K : PySem.W.Frag) (b : Addr), List.lookup b (K.filter fun p => !(p.1 == a)) = if b = a then none else List.lookup b K
  | [], b => by simp
  | (c, o) :: K, b => by
    by_cases hc : c = a
    · subst hc
      rw [List.filter_cons_of_neg (by simp), look_filter c K b]
      by_cases hb : b = c
      · rw [if_pos hb, if_pos hb]
      · rw [if_neg hb, if_neg hb, List.lookup_cons, show (b == c) = false by simpa using hb]
    · rw [List.filter_cons_of_pos (by simpa using hc), List.lookup_cons, look_filter a K b, List.lookup_cons]
      by_cases hb : b = c
      · subst hb; simp [hc]
      · rw [show (b == c) = false by simpa using hb]
end
theorem walk_D {l : PySem.W.OpenLaw} {n k : Nat} {q : Program} {loose : List Str} {XP : (Str → Option Value) → Heap → Prop} {YP : World → Heap → Prop} {d : DefRec} {K : Params → PySem.W.Frag} {φ : List D → Option T} {x : Str}
    (hn : l.most = some n) (hn2 : n ≤ sizeLine) (hdf : d.params.defaults = []) (hr : Room k callerA) (hY : ∀ (w : World) (h : Heap), YP w h → (K w.params).In h)
    (F : ∀ (w : World) (mg : Str → Option Value) (fa : Addr) (h : Heap), (K w.params).In h → h.Ns mainGlobals mg → mg d.name = some (.ref fa) →
      ∃ fd : FuncData, (∀ (s : Shared) (u : Value), BindsTo s fd ⟨[u], []⟩ [(x, u)]) ∧ ∀ (K' : PySem.W.Frag) (base : Heap), Less (K w.params) K' → FnOk l.prog w K' mg base CX0 k fa fd [x] (spD 1 φ ⟨K', l.prog, w⟩))
    (M : ∀ ns : List Int, ns.length ≤ n → (∀ z ∈ ns, Builtin.Int.intBits z ≤ 1048576) → φ [.lst (ns.map D.int)] = some (.p (.bl true))) :
    PySem.W.WalkO q loose XP YP l.row.toRowW d [] (fun f vs => PySem.call f vs) := by
  refine Att.attach_callB hn hdf fun w s₀ s₁ mg mb fa o pm cd doc a vs ns G Y ho hd hcd hmg hobj hints hlen hbits hg => ?_
  have KX := hY w _ Y
  obtain ⟨fd, hb, hF⟩ := F w mg fa _ KX G.T.g hmg
  have hM := M ns hlen hbits
  have go : ∀ K' : PySem.W.Frag, K'.In s₁.heap → List.lookup a K' = none → Less (K w.params) K' → codeAny (model l.prog w) callerA (.call (.ref fa) ⟨[.ref a], []⟩) (fun r s' => r = .ok (.ret (.bool true)) ∧ OldK s₁.heap s'.heap ∧ s'.os = s₁.os ∧ AllBare s'.gens) s₁ := fun K' KI hk L =>
    law_call (K := K') KI G.T.g G.T.b G.T.builtins G.T.nolimit hg hobj hints (Nat.le_trans hlen hn2) hr (fun base _ _ => hF K' base L) hb (fun H hO hS => by
      rcases hS with hS | ⟨o, its, n, e, _⟩
      · exact end_law hM hS
      · have e' : List.lookup a K' = some o := e
        rw [hk] at e'; cases e') fun _ _ _ h => h
  cases hk : List.lookup a (K w.params) with
  | none => exact go _ KX hk (Less.refl _)
  | some o1 =>
    have e1 := KX a o1 hk
    rw [hobj] at e1
    cases e1
    refine go ((K w.params).filter fun p => !(p.1 == a)) (fun b o e => ?_) ?_ fun b o e hn => ?_
    · have e' : List.lookup b ((K w.params).filter fun p => !(p.1 == a)) = some o := e
      rw [look_filter] at e'
      by_cases hb : b = a
      · rw [if_pos hb] at e'; cases e'
      · rw [if_neg hb] at e'; exact KX b o e'
    · rw [look_filter, if_pos rfl]
    · show List.lookup b ((K w.params).filter fun p => !(p.1 == a)) = some o
      rw [look_filter]
      by_cases hb : b = a
      · subst hb
        have e2 : List.lookup b (K w.params) = some o := e
        rw [hk] at e2; cases e2
        exact absurd ⟨rfl, _, _, rfl⟩ hn
      · rw [if_neg hb]; exact e
end DL
namespace DL
open PySem PySem.Spec PyProof.Rows L2
section
variable {K : KW} {G0 H0 H : Hp} {W : List (T × V)} {ts : List T} {vs : List V} {env : Env} {σ : St} {t : T} {v : V}
theorem OkS.newDic {p : Addr} (S : OkS K G0 H0 W H ts vs env σ) (hp : H p = none) : OkS K G0 H0 W (upd H p (.dK [])) (.dic [] :: ts) (.ref p :: vs) env σ := by
  obtain ⟨G, ot, oe, s⟩ := S
  have gp : G p = none := Same.none s.gh hp
  have ne : ∀ a u, H a = some u → a ≠ p := fun a u e z => by rw [z, hp] at e; cases e
  have k2 : ∀ a ∈ ot, upd H p (.dK []) a = H a := fun a ha => by
    obtain ⟨u, e, _⟩ := s.tmp.there _ a ha
    exact upd_ne (ne a u e)
  have k3 : ∀ a ∈ oe, upd H p (.dK []) a = H a := fun a ha => by
    obtain ⟨u, e, _⟩ := s.env.there _ a ha
    exact upd_ne (ne a u e)
  have all : ∀ a ∈ ot ++ oe, ∃ u, H a = some u := fun a ha => by
    rcases List.mem_append.mp ha with ha | ha
    · obtain ⟨u, e, _⟩ := s.tmp.there _ a ha; exact ⟨u, e⟩
    · obtain ⟨u, e, _⟩ := s.env.there _ a ha; exact ⟨u, e⟩
  refine ⟨G, p :: ot, oe, ⟨.ref p, vs, [p], ot, rfl, ⟨p, [], [], rfl, upd_same, ⟨rfl, rfl⟩, rfl⟩, s.tmp.mono (Same.refl _) _ k2, rfl⟩, s.env.mono (Same.refl _) _ k3, ?_, fun a ha => ?_, s.g0, fun b u e => ?_, fun b u e => ?_, s.nw, fun q hq => ?_⟩
  · rw [List.cons_append]
    refine List.nodup_cons.mpr ⟨fun z => ?_, s.nd⟩
    obtain ⟨u, e⟩ := all p z
    rw [hp] at e; cases e
  · rw [List.cons_append] at ha
    rcases List.mem_cons.mp ha with e | ha
    · subst e; exact ⟨gp, Same.none s.h0 hp⟩
    · exact s.fr a ha
  · rw [upd_ne (ne b u (s.gh b u e))]; exact s.gh b u e
  · rw [upd_ne (ne b u (s.h0 b u e))]; exact s.h0 b u e
  · obtain ⟨o, h⟩ := s.vw q hq
    refine ⟨o, h.mono (Same.refl _) _ fun a ha => ?_⟩
    obtain ⟨u, e, _⟩ := h.there _ a ha
    exact upd_ne (ne a u e)
def pairsT (kvs : List (Key × D)) : List (Key × T) := kvs.map fun kv => (kv.1, T.p kv.2)
theorem rpTk_of {G : Hp} : ∀ {kvs : List (Key × D)} {xs : List (Key × V)} {o : List Addr}, RpTk K G H (pairsT kvs) xs o → RpKs K G kvs xs ∧ o = []
  | [], _, _, h => h
  | (k, d) :: r, _, _, ⟨v, r', o1, o2, h1, h2, h3, h4⟩ => by
    obtain ⟨g1, g2⟩ := rpTk_of h3
    exact ⟨⟨v, r', h1, h2.1, g1⟩, by rw [h4, h2.2, g2]; rfl⟩
theorem rpTk_mk {G : Hp} : ∀ {kvs : List (Key × D)} {xs : List (Key × V)}, RpKs K G kvs xs → RpTk K G H (pairsT kvs) xs []
  | [], _, h => ⟨h, rfl⟩
  | (k, d) :: r, _, ⟨v, r', h1, h2, h3⟩ => ⟨v, r', [], [], h1, ⟨h2, rfl⟩, rpTk_mk h3, rfl⟩
def putD (kvs : List (Key × D)) (k : Key) (d : D) : List (Key × D) := if (kvs.any fun kv => decide (kv.1 = k)) = true then kvs.map (fun kv => if kv.1 = k then (kv.1, d) else kv) else kvs ++ [(k, d)]
def valD (kvs : List (Key × D)) (k : Key) : Option D := (kvs.find? fun kv => decide (kv.1 = k)).map (·.2)
theorem RpKs.any {G : Hp} (k : Key) : ∀ {kvs : List (Key × D)} {xs : List (Key × V)}, RpKs K G kvs xs → (xs.any fun kv => decide (kv.1 = k)) = kvs.any fun kv => decide (kv.1 = k)
  | [], xs, h => by rw [show xs = [] from h]; rfl
  | (j, d) :: r, _, ⟨v, r', h1, h2, h3⟩ => by rw [h1, List.any_cons, List.any_cons, RpKs.any k h3]
theorem RpKs.upd {G : Hp} (k : Key) {d : D} {v : V} (hv : RpD K G d v) : ∀ {kvs : List (Key × D)} {xs : List (Key × V)}, RpKs K G kvs xs → RpKs K G (kvs.map (fun kv => if kv.1 = k then (kv.1, d) else kv)) (xs.map (fun kv => if kv.1 = k then (kv.1, v) else kv))
  | [], xs, h => by rw [show xs = [] from h]; exact rfl
  | (j, e) :: r, _, ⟨w, r', h1, h2, h3⟩ => by
    subst h1
    rw [List.map_cons, List.map_cons]
    have ih := RpKs.upd k hv h3
    by_cases c : j = k
    · rw [if_pos c, if_pos c]; exact ⟨v, _, rfl, hv, ih⟩
    · rw [if_neg c, if_neg c]; exact ⟨w, _, rfl, h2, ih⟩
theorem RpKs.app {G : Hp} {k : Key} {d : D} {v : V} (hv : RpD K G d v) : ∀ {kvs : List (Key × D)} {xs : List (Key × V)}, RpKs K G kvs xs → RpKs K G (kvs ++ [(k, d)]) (xs ++ [(k, v)])
  | [], xs, h => by rw [show xs = [] from h]; exact ⟨v, [], rfl, hv, rfl⟩
  | (j, e) :: r, _, ⟨w, r', h1, h2, h3⟩ => by subst h1; exact ⟨w, _, rfl, h2, RpKs.app hv h3⟩
theorem RpKs.put {G : Hp} {k : Key} {d : D} {v : V} (hv : RpD K G d v) {kvs : List (Key × D)} {xs : List (Key × V)} (h : RpKs K G kvs xs) : RpKs K G (putD kvs k d) (putK xs k v) := by
  unfold putD putK
  rw [h.any k]
  split
  · exact h.upd k hv
  · exact h.app hv
theorem RpKs.val {G : Hp} (k : Key) : ∀ {kvs : List (Key × D)} {xs : List (Key × V)}, RpKs K G kvs xs → (valD kvs k = none → valV xs k = none) ∧ ∀ d, valD kvs k = some d → ∃ v, valV xs k = some v ∧ RpD K G d v
  | [], xs, h => by rw [show xs = [] from h]; exact ⟨fun _ => rfl, fun d h => (nomatch h)⟩
  | (j, e) :: r, _, ⟨w, r', h1, h2, h3⟩ => by
    subst h1
    by_cases c : j = k
    · have e1 : valD ((j, e) :: r) k = some e := by simp [valD, List.find?_cons, c]
      rw [e1, valV_pos (by exact c)]
      exact ⟨fun h => (nomatch h), fun d h => by cases h; exact ⟨w, rfl, h2⟩⟩
    · have e1 : valD ((j, e) :: r) k = valD r k := by simp [valD, List.find?_cons, c]
      rw [e1, valV_neg (by exact c)]
      exact RpKs.val k h3
theorem RpKs.length {G : Hp} : ∀ {kvs : List (Key × D)} {xs : List (Key × V)}, RpKs K G kvs xs → xs.length = kvs.length
  | [], xs, h => by rw [show xs = [] from h]; rfl
  | (j, e) :: r, _, ⟨w, r', h1, h2, h3⟩ => by subst h1; simp [RpKs.length h3]
end
def eDn : EF := fun env => some (.dic [], env)
theorem dt_dn {X : Cx} {pos : Pos} : DT X (.Dict [] [] pos) tDNewK eDn := by
  refine ⟨pe_dnewK, ?_⟩
  intro G0 H0 W H ts vs env σ t env' S g Q q
  cases g
  exact fun p hp => q _ _ (same_upd hp) (S.newDic hp)
def frzK : List (Key × T) → Option (List (Key × D))
  | [] => some []
  | (k, .p d) :: r => (frzK r).map ((k, d) :: ·)
  | _ :: _ => none
theorem frzK_eq : ∀ {kvs : List (Key × T)} {ds : List (Key × D)}, frzK kvs = some ds → kvs = pairsT ds
  | [], ds, h => by cases h; rfl
  | (k, .p d) :: r, ds, h => by
    obtain ⟨es, h1, h2⟩ := omap (show (frzK r).map ((k, d) :: ·) = some ds from h)
    subst h2
    rw [frzK_eq h1]; rfl
  | (_, .lst _) :: _, _, h => by cases h
  | (_, .tup _) :: _, _, h => by cases h
  | (_, .dic _) :: _, _, h => by cases h
theorem frzK_pairs : ∀ ds : List (Key × D), frzK (pairsT ds) = some ds
  | [] => rfl
  | (k, d) :: r => by show (frzK (pairsT r)).map ((k, d) :: ·) = _; rw [frzK_pairs r]; rfl
def keyD : D → Option Key
  | .int i => some (.inl i)
  | .str s => some (.inr s)
  | _ => none
theorem keyD_rp {K : KW} {G : Hp} {d : D} {k : Key} {v : V} (h : keyD d = some k) (r : RpD K G d v) : v = kV k := by
  cases d with
  | int i => cases h; exact r
  | str s => cases h; exact r
  | _ => cases h
def atD (env : Env) (i : Nat) : Option (List (Key × D)) := match env[i]? with
  | some (some (.dic kvs)) => frzK kvs
  | _ => none
def keyT : T → Option Key
  | .p d => keyD d
  | _ => none
def sPutD (i : Nat) (fk f : EF) : SF := fun env => (f env).bind fun r => (atD r.2 i).bind fun _ => (fk r.2).bind fun s => (keyT s.1).bind fun k => (atD s.2 i).bind fun kvs => match r.1 with
  | .p d => if kvs.length < 16000000 then some (.nx, s.2.set i (some (.dic (pairsT (putD kvs k d))))) else none
  | _ => none
section
variable {X : Cx} {e j : Expr} {te tj : TE} {f fj : EF} {pos npos ipos : Pos}
end
def dicT : T → Option (List (Key × D))
  | .p (.dic kvs) => some kvs
  | .dic kvs => frzK kvs
  | _ => none
theorem St0.dic {K : KW} {G0 H0 G H : Hp} {W : List (T × V)} {ts : List T} {vs : List V} {env : Env} {σ : St} {ot oe : List Addr} {t : T} {v : V} {ds : List (Key × D)} (s : St0 K G0 H0 W G H ts vs env σ ot oe) (hq : (t, v) ∈ W) (h : dicT t = some ds) :
    ∃ a xs, v = .ref a ∧ Rd H a (.dK xs) ∧ RpKs K G ds xs := by
  obtain ⟨o, r⟩ := s.vw (t, v) hq
  cases t with
  | p d =>
    cases d with
    | dic kvs =>
      cases h
      obtain ⟨⟨a, xs, e1, e2, e3⟩, _⟩ := r
      exact ⟨a, xs, e1, Same.rd s.gh e2, e3⟩
    | _ => cases h
  | dic kvs =>
    have e := frzK_eq (show frzK kvs = some ds from h)
    subst e
    obtain ⟨a, xs, o', e1, e2, e3, e4⟩ := r
    exact ⟨a, xs, e1, .inl e2, (rpTk_of e3).1⟩
  | _ => cases h
section
variable {X : Cx} {o i x : Expr} {to ti tx : TE} {fo fi fx : EF} {pos apos : Pos}
def eDix (fo fi : EF) : EF := fun env => (fo env).bind fun r => (fi r.2).bind fun s => (dicT r.1).bind fun ds => (keyT s.1).bind fun k => (valD ds k).map fun d => (.p d, s.2)
theorem dt_dix (hu : X.A.units + 1 < cLine) (ho : DV X o to fo) (hi : DT X i ti fi) (hs : NoSl i := by exact fun _ _ => rfl) : DT X (.Subscript o i pos) (tDGet to ti) (eDix fo fi) := by
  refine ⟨pe_dget hu ho.pe hi.pe hs, ?_⟩
  intro G0 H0 W H ts vs env σ t env' S g Q q
  obtain ⟨⟨y, e1⟩, g1, g2⟩ := obind g
  obtain ⟨⟨z, e2⟩, g3, g4⟩ := obind g2
  obtain ⟨ds, g5, g6⟩ := obind g4
  obtain ⟨k, g7, g8⟩ := obind g6
  obtain ⟨d, g9, g10⟩ := omap g8
  cases g10
  cases z with
  | p kd =>
    refine ho.ok _ _ _ _ _ _ _ _ _ _ S g1 _ fun v H1 s1 S1 => ?_
    refine hi.ok _ _ _ _ _ _ _ _ _ _ S1 g3 _ fun w H2 s2 S2 => ?_
    have ew : w = kV k := keyD_rp (show keyD kd = some k from g7) S2.top
    obtain ⟨G, ot, oe, s⟩ := S2.pop
    obtain ⟨a, xs, ev, ha, rr⟩ := s.dic (t := y) (v := v) (by simp) g5
    obtain ⟨u, u1, u2⟩ := (rr.val k).2 d g9
    refine ⟨a, u, ev, by rw [ew, ← u1]; exact (.inl ⟨_, _, ha, rfl, rfl⟩ : DGet _ _ _ _), ?_⟩
    have s' : St0 X.kw G0 H0 W G H2 ts vs _ σ ot oe := ⟨s.tmp, s.env, s.nd, s.fr, s.g0, s.gh, s.h0, s.nw, fun q hq => s.vw q (List.mem_cons_of_mem _ hq)⟩
    have S3 := OkS.pushD (ds := [d]) (xs := [u]) s' ⟨u, [], rfl, u2, rfl⟩
    exact q u H2 (s1.trans s2) S3
  | _ => cases g7
def eDget (fo fi fx : EF) : EF := fun env => (fo env).bind fun r => (fi r.2).bind fun s => (fx s.2).bind fun u => (dicT r.1).bind fun ds => (keyT s.1).bind fun k => match u.1 with
  | .p z => some (.p ((valD ds k).getD z), u.2)
  | _ => none
theorem dt_dget {cpos : Pos} (hu : X.A.units + 1 < cLine) (ho : DV X o to fo) (hi : DT X i ti fi) (hx : DT X x tx fx) (m : M2 X o "get" apos i x cpos := by exact ⟨by rfl, by rfl, by rfl, by rfl⟩) : DT X (.Call (.Attribute o "get" apos) [i, x] [] cpos) (tDGet2 to ti tx) (eDget fo fi fx) := by
  refine ⟨pe_dget2 hu ho.pe hi.pe hx.pe m, ?_⟩
  intro G0 H0 W H ts vs env σ t env' S g Q q
  obtain ⟨⟨y, e1⟩, g1, g2⟩ := obind g
  obtain ⟨⟨z, e2⟩, g3, g4⟩ := obind g2
  obtain ⟨⟨u, e3⟩, g5, g6⟩ := obind g4
  obtain ⟨ds, g7, g8⟩ := obind g6
  obtain ⟨k, g9, g10⟩ := obind g8
  cases z with
  | p kd =>
    cases u with
    | p ud =>
      have g10 : some (T.p ((valD ds k).getD ud), e3) = some (t, env') := g10
      cases g10
      refine ho.ok _ _ _ _ _ _ _ _ _ _ S g1 _ fun v H1 s1 S1 => ?_
      have isd : ∃ a, v = .ref a ∧ IsD H1 a := by
        obtain ⟨G, ot, oe, s⟩ := S1
        obtain ⟨a, xs, ev, ha, _⟩ := s.dic (t := y) (v := v) (by simp) g7
        exact ⟨a, ev, .inl ⟨xs, ha⟩⟩
      obtain ⟨a0, ev0, hd⟩ := isd
      refine ⟨a0, ev0, hd, ?_⟩
      refine hi.ok _ _ _ _ _ _ _ _ _ _ S1 g3 _ fun w H2 s2 S2 => ?_
      have ew : w = kV k := keyD_rp (show keyD kd = some k from g9) S2.top
      refine hx.ok _ _ _ _ _ _ _ _ _ _ S2.pop g5 _ fun uu H3 s3 S3 => ?_
      obtain ⟨G, ot, oe, s⟩ := S3
      obtain ⟨a, xs, ev, ha, rr⟩ := s.dic (t := y) (v := v) (by simp) g7
      rw [ev0] at ev
      cases ev
      have s' : St0 X.kw G0 H0 W G H3 (.p ud :: ts) (uu :: vs) _ σ ot oe := ⟨s.tmp, s.env, s.nd, s.fr, s.g0, s.gh, s.h0, s.nw, fun q hq => s.vw q (List.mem_cons_of_mem _ hq)⟩
      refine ⟨valV xs k, by rw [ew]; exact (.inl ⟨_, _, ha, rfl, rfl⟩ : DGet _ _ _ _), ?_⟩
      cases hv : valD ds k with
      | none =>
        rw [(rr.val k).1 hv]
        rw [hv] at q
        exact q uu H3 ((s1.trans s2).trans s3) ⟨G, ot, oe, s'⟩
      | some d =>
        obtain ⟨n, n1, n2⟩ := (rr.val k).2 d hv
        rw [n1]
        rw [hv] at q
        have S4 := OkS.pushD (ds := [d]) (xs := [n]) s' ⟨n, [], rfl, n2, rfl⟩
        have S5 : OkS X.kw G0 H0 W H3 (.p ud :: .p d :: ts) (uu :: n :: vs) _ σ := OkS.mid (us := [.p d]) (ws := [n]) rfl S4
        exact q n H3 ((s1.trans s2).trans s3) S5.pop
    | _ => cases g10
  | _ => cases g9
def eDin (b : Bool) (fi fo : EF) : EF := fun env => (fi env).bind fun s => (fo s.2).bind fun r => (dicT r.1).bind fun ds => (keyT s.1).bind fun k => some (.p (.bl (if b then (valD ds k).isSome else !(valD ds k).isSome)), r.2)
end
end DL
namespace DL
open PySem PySem.Spec PyProof.Rows L2
section
variable {K : KW} {G0 H0 H : Hp} {W : List (T × V)} {ts : List T} {vs : List V} {env : Env} {σ : St} {t : T} {v : V}
theorem OkS.pops : ∀ {us : List T} {ws : List V}, ws.length = us.length → OkS K G0 H0 W H (us ++ ts) (ws ++ vs) env σ → OkS K G0 H0 W H ts vs env σ
  | [], [], _, S => S
  | u :: us, w :: ws, hl, S => OkS.pops (us := us) (ws := ws) (by simpa using hl) (OkS.pop S)
  | [], _ :: _, hl, _ => by simp at hl
  | _ :: _, [], hl, _ => by simp at hl
theorem OkS.pops1 : ∀ {us : List T} {ws : List V}, ws.length = us.length → OkS K G0 H0 W H (t :: (us ++ ts)) (v :: (ws ++ vs)) env σ → OkS K G0 H0 W H (t :: ts) (v :: vs) env σ
  | [], [], _, S => S
  | u :: us, w :: ws, hl, S => OkS.pops1 (us := us) (ws := ws) (by simpa using hl) (OkS.pop (OkS.mid (us := [t]) (ws := [v]) rfl S))
  | [], _ :: _, hl, _ => by simp at hl
  | _ :: _, [], hl, _ => by simp at hl
end
def loopT (G : GF) (body : SF) : List T → Env → Option (Fl × Env)
  | [], env => some (.nx, env)
  | t :: ts, env => (G t env).bind fun e1 => (body e1).bind fun r => match r.1 with
    | .nx => loopT G body ts r.2
    | .ct => loopT G body ts r.2
    | .bk => some (.nx, r.2)
    | .rt t => some (.rt t, r.2)
def sForM (f : EF) (G : GF) (body : SF) : SF := fun env => (f env).bind fun r => match r.1 with
  | .lst us => loopT G body us r.2
  | _ => none
def eM0 (g : Str → Option D) (fo : EF) : EF := fun env => (fo env).bind fun x => match x.1 with
  | .p (.str a) => (g a).map fun d => (.p d, x.2)
  | _ => none
section
variable {X : Cx} {o : Expr} {to : TE} {fo : EF} {apos pos : Pos}
end
def rng3D (lo c : Int) (n : Nat) : List D := (List.range n).map fun (k : Nat) => D.int (lo + (k : Nat) * c)
def iR3 (f : AF) : IF := fun env => (f env).bind fun r => match r.1 with
  | [.p (.int i), .p (.int j), .p (.int c)] => if c ≠ 0 ∧ c.natAbs < 1073741824 ∧ Builtin.Range.small i j c = true ∧ Builtin.Range.rangeSize i j c = ((Builtin.Range.rangeSize i j c).toNat : Int) then some (rng3D i c (Builtin.Range.rangeSize i j c).toNat, r.2) else none
  | _ => none
end DL
namespace DL
open PySem PySem.Spec PyProof.Rows L2
variable {env e : Env} {i j n k : Nat} {t u : T} {ts us : List T} {d a b : D} {ds es : List D} {fa fb fc f : EF} {r : AF} {c c2 : CF} {F1 F2 F : SF} {G : GF} {gs : GsF} {z w : Int}
theorem bindS {α β : Type} {x : α} {g : α → Option β} : (some x).bind g = g x := id rfl
theorem mapS {α β : Type} {x : α} {g : α → β} : Option.map g (some x) = some (g x) := id rfl
def kV (env : Env) (i : Nat) : Option (Option T) → Option (T × Env)
  | some (some (.p d)) => some (.p d, env)
  | some (some t) => some (.p t.toD, env.set i (some (.p t.toD)))
  | _ => none
theorem eV_q : eV i env = kV env i env[i]? := id rfl
theorem kV_p : kV env i (some (some (.p d))) = some (.p d, env) := id rfl
theorem kV_l : kV env i (some (some (.lst ts))) = some (.p (T.lst ts).toD, env.set i (some (.p (T.lst ts).toD))) := id rfl
theorem kV_t : kV env i (some (some (.tup ts))) = some (.p (T.tup ts).toD, env.set i (some (.p (T.tup ts).toD))) := id rfl
def kM (env : Env) (i : Nat) : Option (Option T) → Option (T × Env)
  | some (some t) => some (t, env.set i none)
  | _ => none
theorem eM_q : eM i env = kM env i env[i]? := id rfl
theorem kM_s : kM env i (some (some t)) = some (t, env.set i none) := id rfl
def kB (env : Env) : Option (Option T) → Option (T × Env)
  | some (some t) => some (t, env)
  | _ => none
theorem eB_q : eB i env = kB env env[i]? := id rfl
theorem kB_s : kB env (some (some t)) = some (t, env) := id rfl
theorem eC_q : eC d env = some (.p d, env) := id rfl
def kW : T × Env → Option (T × Env)
  | (.p d, e) => some (.p d, e)
  | _ => none
theorem eW_q : eW f env = (f env).bind kW := by
  unfold eW; congr 1; funext r; obtain ⟨t, e⟩ := r; cases t <;> rfl
theorem kW_p : kW (.p d, e) = some (.p d, e) := id rfl
theorem aN_q : aN env = some ([], env) := id rfl
def kCons (t : T) (y : List T × Env) : List T × Env := (t :: y.1, y.2)
def kAC (r : AF) (x : T × Env) : Option (List T × Env) := (r x.2).map (kCons x.1)
theorem aC_q : aC f r env = (f env).bind (kAC r) := id rfl
theorem kAC_q : kAC r (t, e) = (r e).map (kCons t) := id rfl
theorem kCons_q : kCons t (ts, e) = (t :: ts, e) := id rfl
def kMv3 (ts : List T) (e : Env) (i : Nat) : Option (Option T) → Option (List T × Env)
  | some (some t) => some (t :: ts, e.set i none)
  | _ => none
def kMv2 (i : Nat) (y : List T × Env) : Option (List T × Env) := kMv3 y.1 y.2 i y.2[i]?
def kMv (i : Nat) (r : AF) (env : Env) : Option (Option T) → Option (List T × Env)
  | some (some _) => (r env).bind (kMv2 i)
  | _ => none
theorem aMv_q : aMv i r env = kMv i r env env[i]? := id rfl
theorem kMv_s : kMv i r env (some (some t)) = (r env).bind (kMv2 i) := id rfl
theorem kMv2_q : kMv2 i (ts, e) = kMv3 ts e i e[i]? := id rfl
theorem kMv3_s : kMv3 ts e i (some (some t)) = some (t :: ts, e.set i none) := id rfl
def kL (x : List T × Env) : Option (T × Env) := if x.1.length ≤ 1000 then some (.lst x.1, x.2) else none
theorem eL_q : eL r env = (r env).bind kL := id rfl
theorem kL_q : kL (ts, e) = if ts.length ≤ 1000 then some (.lst ts, e) else none := id rfl
def kT (x : List T × Env) : Option (T × Env) := if x.1.length ≤ 1000 then some (mkTup x.1, x.2) else none
theorem eT_q : eT r env = (r env).bind kT := id rfl
theorem kT_q : kT (ts, e) = if ts.length ≤ 1000 then some (mkTup ts, e) else none := id rfl
def kP (e : Env) (d : D) : T × Env := (.p d, e)
theorem kP_q : kP e d = (.p d, e) := id rfl
def kBl (e : Env) (c : Bool) : T × Env := (.p (.bl c), e)
theorem kBl_q {c : Bool} : kBl e c = (.p (.bl c), e) := id rfl
def kT2 (e : Env) (t : T) : T × Env := (t, e)
theorem kT2_q : kT2 e t = (t, e) := id rfl
def kFz (r : T × Env) : T × Env := (.p r.1.toD, r.2)
theorem eFz_q : eFz f env = (f env).map kFz := id rfl
theorem kFz_q : kFz (t, e) = (.p t.toD, e) := id rfl
def kOp2 (g : D → D → Option D) (x : T) : T × Env → Option (T × Env)
  | (.p b, e) => match x with | .p a => (g a b).map (kP e) | _ => none
  | _ => none
def kOp1 (g : D → D → Option D) (fb : EF) (x : T × Env) : Option (T × Env) := (fb x.2).bind (kOp2 g x.1)
theorem eOp_q {g : D → D → Option D} : eOp g fa fb env = (fa env).bind (kOp1 g fb) := by
  unfold eOp; congr 1; funext x; unfold kOp1; congr 1; funext y; obtain ⟨y, e⟩ := y; obtain ⟨x, e'⟩ := x; cases x <;> cases y <;> rfl
theorem kOp1_q {g : D → D → Option D} : kOp1 g fb (t, e) = (fb e).bind (kOp2 g t) := id rfl
theorem kOp2_q {g : D → D → Option D} : kOp2 g (.p a) (.p b, e) = (g a b).map (kP e) := id rfl
def kCm2 (g : D → D → Option Bool) (x : T) (y : T × Env) : Option (T × Env) := (g x.toD y.1.toD).map (kBl y.2)
def kCm1 (g : D → D → Option Bool) (fb : EF) (x : T × Env) : Option (T × Env) := (fb x.2).bind (kCm2 g x.1)
theorem eCmp_q {g : D → D → Option Bool} : eCmp g fa fb env = (fa env).bind (kCm1 g fb) := id rfl
theorem kCm1_q {g : D → D → Option Bool} : kCm1 g fb (t, e) = (fb e).bind (kCm2 g t) := id rfl
theorem kCm2_q {g : D → D → Option Bool} : kCm2 g t (u, e) = (g t.toD u.toD).map (kBl e) := id rfl
def kNeg : T × Env → Option (T × Env)
  | (.p (.int i), e) => some (.p (.int (-i)), e)
  | _ => none
theorem eNeg_q : eNeg f env = (f env).bind kNeg := by
  unfold eNeg; congr 1; funext x; obtain ⟨x, e⟩ := x; cases x with
  | p d => cases d <;> rfl
  | _ => rfl
theorem kNeg_q : kNeg (.p (.int z), e) = some (.p (.int (-z)), e) := id rfl
def kCh3 (g : Int → Int → Bool) (j : Int) : T × Env → Option (T × Env)
  | (.p (.int k), e) => some (.p (.bl (g j k)), e)
  | _ => none
def kCh2 (f g : Int → Int → Bool) (fc : EF) (x : T) (y : T × Env) : Option (T × Env) := match x, y.1 with
  | .p (.int i), .p (.int j) => if f i j then (fc y.2).bind (kCh3 g j) else some (.p (.bl false), y.2)
  | _, _ => none
def kCh1 (f g : Int → Int → Bool) (fb fc : EF) (x : T × Env) : Option (T × Env) := (fb x.2).bind (kCh2 f g fc x.1)
theorem eChain_q {f g : Int → Int → Bool} : eChain f g fa fb fc env = (fa env).bind (kCh1 f g fb fc) := by
  unfold eChain; congr 1; funext x; unfold kCh1; congr 1; funext y
  obtain ⟨x, ex⟩ := x; obtain ⟨y, ey⟩ := y
  cases x with
  | p d => cases d with
    | int i => cases y with
      | p d2 => cases d2 with
        | int j =>
          show (if f i j = true then _ else _) = (if f i j = true then _ else _)
          congr 1; congr 1; funext z; obtain ⟨z, e⟩ := z; cases z with
            | p d => cases d <;> rfl
            | _ => rfl
        | _ => rfl
      | _ => rfl
    | _ => rfl
  | _ => rfl
theorem kCh1_q {f g : Int → Int → Bool} : kCh1 f g fb fc (t, e) = (fb e).bind (kCh2 f g fc t) := id rfl
theorem kCh2_q {f g : Int → Int → Bool} : kCh2 f g fc (.p (.int z)) (.p (.int w), e) = if f z w then (fc e).bind (kCh3 g w) else some (.p (.bl false), e) := id rfl
theorem kCh3_q {g : Int → Int → Bool} : kCh3 g z (.p (.int w), e) = some (.p (.bl (g z w)), e) := id rfl
def kcT : T × Env → Option (Bool × Env)
  | (.p (.bl b), e) => some (b, e)
  | _ => none
theorem cT_q : cT f env = (f env).bind kcT := by
  unfold cT; congr 1; funext x; obtain ⟨x, e⟩ := x; cases x with
  | p d => cases d <;> rfl
  | _ => rfl
theorem kcT_q {b : Bool} : kcT (.p (.bl b), e) = some (b, e) := id rfl
def kNot (r : Bool × Env) : Bool × Env := (!r.1, r.2)
theorem cNot_q : cNot c env = (c env).map kNot := id rfl
theorem kNot_q {b : Bool} : kNot (b, e) = (!b, e) := id rfl
def kcAnd (d : CF) (r : Bool × Env) : Option (Bool × Env) := if r.1 then d r.2 else some (false, r.2)
theorem cAnd_q : cAnd c c2 env = (c env).bind (kcAnd c2) := id rfl
theorem kcAnd_t : kcAnd c (true, e) = c e := id rfl
theorem kcAnd_f : kcAnd c (false, e) = some (false, e) := id rfl
def kcOr (d : CF) (r : Bool × Env) : Option (Bool × Env) := if r.1 then some (true, r.2) else d r.2
theorem cOr_q : cOr c c2 env = (c env).bind (kcOr c2) := id rfl
theorem kcOr_t : kcOr c (true, e) = some (true, e) := id rfl
theorem kcOr_f : kcOr c (false, e) = c e := id rfl
def keIf (fa fb : EF) (r : Bool × Env) : Option (T × Env) := if r.1 then fa r.2 else fb r.2
theorem eIf_q : eIf c fa fb env = (c env).bind (keIf fa fb) := id rfl
theorem keIf_t : keIf fa fb (true, e) = fa e := id rfl
theorem keIf_f : keIf fa fb (false, e) = fb e := id rfl
def keAnd (fb : EF) (r : Bool × Env) : Option (T × Env) := if r.1 then fb r.2 else some (.p (.bl false), r.2)
theorem eAnd_q : eAnd fa fb env = (cT fa env).bind (keAnd fb) := id rfl
theorem keAnd_t : keAnd fb (true, e) = fb e := id rfl
theorem keAnd_f : keAnd fb (false, e) = some (.p (.bl false), e) := id rfl
def keOr (fb : EF) (r : Bool × Env) : Option (T × Env) := if r.1 then some (.p (.bl true), r.2) else fb r.2
theorem eOr_q : eOr fa fb env = (cT fa env).bind (keOr fb) := id rfl
theorem keOr_t : keOr fb (true, e) = some (.p (.bl true), e) := id rfl
theorem keOr_f : keOr fb (false, e) = fb e := id rfl
def keNot (r : Bool × Env) : T × Env := (.p (.bl (!r.1)), r.2)
theorem eNot_q : eNot fa env = (cT fa env).map keNot := id rfl
theorem keNot_q {b : Bool} : keNot (b, e) = (.p (.bl (!b)), e) := id rfl
def kcIf (F1 F2 : SF) (r : Bool × Env) : Option (Fl × Env) := if r.1 then F1 r.2 else F2 r.2
theorem sIf_q : sIf c F1 F2 env = (c env).bind (kcIf F1 F2) := id rfl
theorem kcIf_t : kcIf F1 F2 (true, e) = F1 e := id rfl
theorem kcIf_f : kcIf F1 F2 (false, e) = F2 e := id rfl
def kB1 (g : T → Option D) (x : T × Env) : Option (T × Env) := (g x.1).map (kP x.2)
theorem eB1_q {g : T → Option D} : eB1 g f env = (f env).bind (kB1 g) := id rfl
theorem kB1_q {g : T → Option D} : kB1 g (t, e) = (g t).map (kP e) := id rfl
def kI2 (g : Int → Int → Int) (r : List T × Env) : Option (T × Env) := match r.1 with
  | [.p (.int i), .p (.int j)] => some (.p (.int (g i j)), r.2)
  | _ => none
theorem eI2_q {g : Int → Int → Int} : eI2 g r env = (r env).bind (kI2 g) := id rfl
theorem kI2_q {g : Int → Int → Int} : kI2 g ([.p (.int z), .p (.int w)], e) = some (.p (.int (g z w)), e) := id rfl
def kIsi (ty : String) (x : T × Env) : Option (T × Env) := if tyOk x.1.toD = true then (kitB (tyD x.1.toD) ty).map (kBl x.2) else none
theorem eIsi_q {ty : String} : eIsi ty f env = (f env).bind (kIsi ty) := id rfl
theorem kIsi_q {ty : String} : kIsi ty (t, e) = if tyOk t.toD = true then (kitB (tyD t.toD) ty).map (kBl e) else none := id rfl
def kLst (e : Env) (ds : List D) : T × Env := (.lst (ds.map T.p), e)
theorem kLst_q : kLst e ds = (.lst (ds.map T.p), e) := id rfl
def kList (x : T × Env) : Option (T × Env) := (itemsT x.1).map (kLst x.2)
theorem eList_q : eList f env = (f env).bind kList := id rfl
theorem kList_q : kList (t, e) = (itemsT t).map (kLst e) := id rfl
def kTpl (e : Env) (ds : List D) : T × Env := (.p (.tup ds), e)
theorem kTpl_q : kTpl e ds = (.p (.tup ds), e) := id rfl
def kTuple (x : T × Env) : Option (T × Env) := (itemsT x.1).map (kTpl x.2)
theorem eTuple_q : eTuple f env = (f env).bind kTuple := id rfl
theorem kTuple_q : kTuple (t, e) = (itemsT t).map (kTpl e) := id rfl
def kCall2 (φ : List D → Option T) (e : Env) (ds : List D) : Option (T × Env) := (φ ds).map (kT2 e)
def kCall (φ : List D → Option T) (r : List T × Env) : Option (T × Env) := (allP r.1).bind (kCall2 φ r.2)
theorem eCall_q {φ : List D → Option T} : eCall φ r env = (r env).bind (kCall φ) := id rfl
theorem kCall_q {φ : List D → Option T} : kCall φ (ts, e) = (allP ts).bind (kCall2 φ e) := id rfl
theorem kCall2_q {φ : List D → Option T} : kCall2 φ e ds = (φ ds).map (kT2 e) := id rfl
def kCl (e : Env) (t : T) : Option (T × Env) := if cleanT t then some (t, e) else none
def kCallB (φ : List D → Option T) (r : List T × Env) : Option (T × Env) := (φ (T.toDs r.1)).bind (kCl r.2)
theorem eCallB_q {φ : List D → Option T} : eCallB φ r env = (r env).bind (kCallB φ) := id rfl
theorem kCallB_q {φ : List D → Option T} : kCallB φ (ts, e) = (φ (T.toDs ts)).bind (kCl e) := id rfl
theorem kCl_q : kCl e t = if cleanT t then some (t, e) else none := id rfl
theorem allP_n : allP [] = some [] := id rfl
theorem allP_c : allP (.p d :: ts) = (allP ts).map (List.cons d) := id rfl
def kIx2 (x : T) : T × Env → Option (T × Env)
  | (.p (.int i), e) => (ixT x i).map (kT2 e)
  | _ => none
def kIx1 (fi : EF) (x : T × Env) : Option (T × Env) := (fi x.2).bind (kIx2 x.1)
theorem eIx_q : eIx fa fb env = (fa env).bind (kIx1 fb) := by
  unfold eIx; congr 1; funext x; unfold kIx1; congr 1; funext y; obtain ⟨y, e⟩ := y; cases y with
  | p d => cases d <;> rfl
  | _ => rfl
theorem kIx1_q : kIx1 fb (t, e) = (fb e).bind (kIx2 t) := id rfl
theorem kIx2_q : kIx2 t (.p (.int z), e) = (ixT t z).map (kT2 e) := id rfl
theorem oN_q : oN env = some (none, env) := id rfl
def koS : T × Env → Option (Option Int × Env)
  | (.p (.int i), e) => some (some i, e)
  | _ => none
theorem oS_q : oS f env = (f env).bind koS := by
  unfold oS; congr 1; funext x; obtain ⟨x, e⟩ := x; cases x with
  | p d => cases d <;> rfl
  | _ => rfl
theorem koS_q : koS (.p (.int z), e) = some (some z, e) := id rfl
def kSl3 (x : T) (l : Option Int) (u : Option Int × Env) : Option (T × Env) := (cutT x l u.1).map (kT2 u.2)
def kSl2 (x : T) (hi : OF) (l : Option Int × Env) : Option (T × Env) := (hi l.2).bind (kSl3 x l.1)
def kSl1 (lo hi : OF) (x : T × Env) : Option (T × Env) := (lo x.2).bind (kSl2 x.1 hi)
theorem eSl_q {lo hi : OF} : eSl fa lo hi env = (fa env).bind (kSl1 lo hi) := id rfl
theorem kSl1_q {lo hi : OF} : kSl1 lo hi (t, e) = (lo e).bind (kSl2 t hi) := id rfl
theorem kSl2_q {hi : OF} {l : Option Int} : kSl2 t hi (l, e) = (hi e).bind (kSl3 t l) := id rfl
theorem kSl3_q {l u : Option Int} : kSl3 t l (u, e) = (cutT t l u).map (kT2 e) := id rfl
theorem cutT_p {l u : Option Int} : cutT (.p (.lst ds)) l u = some (.lst ((cutD ds l u).map T.p)) := id rfl
theorem cutT_l {l u : Option Int} : cutT (.lst (ds.map T.p)) l u = some (.lst ((cutD ds l u).map T.p)) := by
  show (allP (ds.map T.p)).map _ = _
  have : allP (ds.map T.p) = some ds := by
    induction ds with
    | nil => rfl
    | cons d ds ih => simp [allP, ih]
  rw [this]; rfl
theorem cutT_s {l u : Option Int} {s : Str} (h : s.length ≤ 16777216) : cutT (.p (.str s)) l u = some (.p (.str (cutS s l u))) := if_pos h
theorem sNx_q : sNx env = some (.nx, env) := id rfl
theorem sBk_q : sBk env = some (.bk, env) := id rfl
theorem sCt_q : sCt env = some (.ct, env) := id rfl
theorem sRetN_q : sRetN env = some (.rt (.p .non), env) := id rfl
def kSeq (F2 : SF) (r : Fl × Env) : Option (Fl × Env) := match r.1 with
  | .nx => F2 r.2
  | .rt t => some (.rt t, r.2)
  | .bk => some (.bk, r.2)
  | .ct => some (.ct, r.2)
theorem sSeq_q : sSeq F1 F2 env = (F1 env).bind (kSeq F2) := id rfl
theorem kSeq_n : kSeq F (.nx, e) = F e := id rfl
theorem kSeq_r : kSeq F (.rt t, e) = some (.rt t, e) := id rfl
theorem kSeq_b : kSeq F (.bk, e) = some (.bk, e) := id rfl
theorem kSeq_c : kSeq F (.ct, e) = some (.ct, e) := id rfl
def kRet (r : T × Env) : Fl × Env := (.rt r.1, r.2)
theorem sRet_q : sRet f env = (f env).map kRet := id rfl
theorem kRet_q : kRet (t, e) = (.rt t, e) := id rfl
def kSet (i : Nat) (r : T × Env) : Option (Fl × Env) := if i < r.2.length then some (.nx, r.2.set i (some r.1)) else none
theorem sSet_q : sSet i f env = (f env).bind (kSet i) := id rfl
theorem kSet_q : kSet i (t, e) = if i < e.length then some (.nx, e.set i (some t)) else none := id rfl
def kDrop (r : T × Env) : Fl × Env := (.nx, r.2)
theorem sDrop_q : sDrop f env = (f env).map kDrop := id rfl
theorem kDrop_q : kDrop (t, e) = (.nx, e) := id rfl
theorem gNm_q : gNm i t env = if i < env.length then some (env.set i (some t)) else none := id rfl
theorem gEnd_q : gEnd [] env = some env := id rfl
theorem gAnd_q : gAnd G gs (t :: ts) env = (G t env).bind (gs ts) := id rfl
def kTp (n : Nat) (g : GsF) (env : Env) (us : List T) : Option Env := if us.length = n then g us env else none
theorem gTp_q : gTp n gs t env = (partsT t).bind (kTp n gs env) := id rfl
theorem kTp_q : kTp n gs env ts = if ts.length = n then gs ts env else none := id rfl
theorem partsT_p : partsT (.p (.tup ds)) = some (ds.map T.p) := id rfl
theorem partsT_t : partsT (.tup ts) = some ts := id rfl
def kNx (e : Env) : Fl × Env := (.nx, e)
theorem kNx_q : kNx e = (.nx, e) := id rfl
def kAsg (G : GF) (r : T × Env) : Option (Fl × Env) := (G r.1 r.2).map kNx
theorem sAsg_q : sAsg f G env = (f env).bind (kAsg G) := id rfl
theorem kAsg_q : kAsg G (t, e) = (G t e).map kNx := id rfl
def kFor (G : GF) (body : SF) (r : List D × Env) : Option (Fl × Env) := loopD G body r.1 r.2
theorem sFor_q {fi : IF} : sFor fi G F env = (fi env).bind (kFor G F) := id rfl
theorem kFor_q : kFor G F (ds, e) = loopD G F ds e := id rfl
def kLp2 (G : GF) (body : SF) (ds : List D) (r : Fl × Env) : Option (Fl × Env) := match r.1 with
  | .nx => loopD G body ds r.2
  | .ct => loopD G body ds r.2
  | .bk => some (.nx, r.2)
  | .rt t => some (.rt t, r.2)
def kLp1 (G : GF) (body : SF) (ds : List D) (e : Env) : Option (Fl × Env) := (body e).bind (kLp2 G body ds)
theorem loop_n : loopD G F [] env = some (.nx, env) := id rfl
theorem loop_c : loopD G F (d :: ds) env = (G (.p d) env).bind (kLp1 G F ds) := id rfl
theorem kLp1_q : kLp1 G F ds e = (F e).bind (kLp2 G F ds) := id rfl
theorem kLp2_n : kLp2 G F ds (.nx, e) = loopD G F ds e := id rfl
theorem kLp2_c : kLp2 G F ds (.ct, e) = loopD G F ds e := id rfl
theorem kLp2_b : kLp2 G F ds (.bk, e) = some (.nx, e) := id rfl
theorem kLp2_r : kLp2 G F ds (.rt t, e) = some (.rt t, e) := id rfl
def kiL (r : T × Env) : Option (List D × Env) := match r.1 with | .p (.lst ds) => some (ds, r.2) | _ => none
theorem iL_q : iL f env = (f env).bind kiL := id rfl
theorem kiL_q : kiL (.p (.lst ds), e) = some (ds, e) := id rfl
def kiTp (r : T × Env) : Option (List D × Env) := match r.1 with | .p (.tup ds) => some (ds, r.2) | _ => none
theorem iTp_q : iTp f env = (f env).bind kiTp := id rfl
theorem kiTp_q : kiTp (.p (.tup ds), e) = some (ds, e) := id rfl
def kiSg (r : T × Env) : Option (List D × Env) := match r.1 with
  | .p (.str z) => some (signsD z, r.2)
  | _ => none
theorem iSg_q : iSg f env = (f env).bind kiSg := id rfl
theorem kiSg_q {s : Str} : kiSg (.p (.str s), e) = some (signsD s, e) := id rfl
def kR1 (r : List T × Env) : Option (List D × Env) := match r.1 with
  | [.p (.int j)] => if j < 4611686018427387904 ∧ -4611686018427387904 ≤ j then some (rngD 0 j.toNat, r.2) else none
  | _ => none
theorem iR1_q : iR1 r env = (r env).bind kR1 := id rfl
theorem kR1_q (h1 : -4611686018427387904 ≤ z) (h2 : z < 4611686018427387904) : kR1 ([.p (.int z)], e) = some (rngD 0 z.toNat, e) := if_pos ⟨h2, h1⟩
def kR2 (r : List T × Env) : Option (List D × Env) := match r.1 with
  | [.p (.int i), .p (.int j)] => if (i < 4611686018427387904 ∧ -4611686018427387904 ≤ i) ∧ (j < 4611686018427387904 ∧ -4611686018427387904 ≤ j) then some (rngD i (j - i).toNat, r.2) else none
  | _ => none
theorem iR2_q : iR2 r env = (r env).bind kR2 := id rfl
theorem kR2_q (h1 : -4611686018427387904 ≤ z) (h2 : z < 4611686018427387904) (h3 : -4611686018427387904 ≤ w) (h4 : w < 4611686018427387904) : kR2 ([.p (.int z), .p (.int w)], e) = some (rngD z (w - z).toNat, e) := if_pos ⟨⟨h2, h1⟩, h4, h3⟩
def kEn (r : List T × Env) : Option (List D × Env) := match r.1 with
  | [.p (.lst ds)] => some (enumD 0 ds, r.2)
  | _ => none
theorem iEn_q : iEn r env = (r env).bind kEn := id rfl
theorem kEn_q : kEn ([.p (.lst ds)], e) = some (enumD 0 ds, e) := id rfl
def kZp (r : List T × Env) : Option (List D × Env) := match r.1 with
  | [.p (.lst ds), .p (.lst es)] => some (zipD ds es, r.2)
  | [.p (.tup ds), .p (.tup es)] => some (zipD ds es, r.2)
  | _ => none
theorem iZp_q : iZp r env = (r env).bind kZp := id rfl
theorem kZp_q : kZp ([.p (.lst ds), .p (.lst es)], e) = some (zipD ds es, e) := id rfl
theorem kZp_t : kZp ([.p (.tup ds), .p (.tup es)], e) = some (zipD ds es, e) := id rfl
def kForV2 (us : List T) (i : Nat) (r : Fl × Env) : Fl × Env := (r.1, match r.1 with
  | .rt _ => r.2
  | _ => r.2.set i (some (.lst us)))
def kForV1 (i : Nat) (G : GF) (body : SF) (env : Env) (us : List T) (ds : List D) : Option (Fl × Env) := (loopD G body ds (env.set i none)).map (kForV2 us i)
def kForV (i : Nat) (G : GF) (body : SF) (env : Env) (us : List T) : Option (Fl × Env) := (allP us).bind (kForV1 i G body env us)
theorem sForV_q : sForV i G F env = (atL env i).bind (kForV i G F env) := id rfl
theorem kForV_q : kForV i G F env us = (allP us).bind (kForV1 i G F env us) := id rfl
theorem kForV1_q : kForV1 i G F env us ds = (loopD G F ds (env.set i none)).map (kForV2 us i) := id rfl
theorem kForV2_n : kForV2 us i (.nx, e) = (.nx, e.set i (some (.lst us))) := id rfl
theorem kForV2_r : kForV2 us i (.rt t, e) = (.rt t, e) := id rfl
def kAtL : Option (Option T) → Option (List T)
  | some (some (.lst us)) => some us
  | _ => none
theorem atL_q : atL env i = kAtL env[i]? := id rfl
theorem kAtL_q : kAtL (some (some (.lst us))) = some us := id rfl
def kApp2 (i : Nat) (t : T) (e : Env) (us : List T) : Option (Fl × Env) := if us.length < 16000000 then some (.nx, e.set i (some (.lst (us ++ [t])))) else none
def kApp1 (i : Nat) (r : T × Env) : Option (Fl × Env) := (atL r.2 i).bind (kApp2 i r.1 r.2)
def kApp (i : Nat) (f : EF) (env : Env) (_ : List T) : Option (Fl × Env) := (f env).bind (kApp1 i)
theorem sApp_q : sApp i f env = (atL env i).bind (kApp i f env) := by
  unfold sApp atL
  split
  · rename_i h
    show _ = (f env).bind (kApp1 i)
    congr 1; funext r; unfold kApp1 atL
    split <;> rfl
  · rfl
theorem kApp_q : kApp i f env us = (f env).bind (kApp1 i) := id rfl
theorem kApp1_q : kApp1 i (t, e) = (atL e i).bind (kApp2 i t e) := id rfl
theorem kApp2_q : kApp2 i t e us = if us.length < 16000000 then some (.nx, e.set i (some (.lst (us ++ [t])))) else none := id rfl
def kPutEnd (i : Nat) (t : T) (e : Env) (us : List T) (k : Nat) : Fl × Env := (.nx, e.set i (some (.lst (us.set k t))))
def kPut4 (i : Nat) (t : T) (e : Env) (j : Int) (us : List T) : Option (Fl × Env) := (ixN us.length j).map (kPutEnd i t e us)
def kPut3 (i : Nat) (t : T) (e : Env) (j : Int) : Option (Fl × Env) := (atL e i).bind (kPut4 i t e j)
def kPut2 (i : Nat) (t : T) (s : T × Env) : Option (Fl × Env) := (asI s.1).bind (kPut3 i t s.2)
def kPut1 (i : Nat) (fj : EF) (r : T × Env) (_ : List T) : Option (Fl × Env) := (fj r.2).bind (kPut2 i r.1)
def kPut (i : Nat) (fj : EF) (r : T × Env) : Option (Fl × Env) := (atL r.2 i).bind (kPut1 i fj r)
theorem sPut_q : sPut i fa f env = (f env).bind (kPut i fa) := id rfl
theorem kPut_q : kPut i fa (t, e) = (atL e i).bind (kPut1 i fa (t, e)) := id rfl
theorem kPut1_q : kPut1 i fa (t, e) us = (fa e).bind (kPut2 i t) := id rfl
theorem kPut2_q : kPut2 i t (u, e) = (asI u).bind (kPut3 i t e) := id rfl
theorem kPut3_q : kPut3 i t e z = (atL e i).bind (kPut4 i t e z) := id rfl
theorem kPut4_q : kPut4 i t e z us = (ixN us.length z).map (kPutEnd i t e us) := id rfl
theorem kPutEnd_q : kPutEnd i t e us k = (.nx, e.set i (some (.lst (us.set k t)))) := id rfl
theorem asI_q : asI (.p (.int z)) = some z := id rfl
def kAx8 (i : Nat) (h : Int → Int → Int) (x y : Int) (e : Env) (us : List T) (k : Nat) : Fl × Env := (.nx, e.set i (some (.lst (us.set k (.p (.int (h x y)))))))
def kAx7 (i : Nat) (h : Int → Int → Int) (j x y : Int) (e : Env) (us : List T) : Option (Fl × Env) := (ixN us.length j).map (kAx8 i h x y e us)
def kAx6 (i : Nat) (h : Int → Int → Int) (j x : Int) (e : Env) (y : Int) : Option (Fl × Env) := (atL e i).bind (kAx7 i h j x y e)
def kAx5 (i : Nat) (h : Int → Int → Int) (j x : Int) (r : T × Env) : Option (Fl × Env) := (asI r.1).bind (kAx6 i h j x r.2)
def kAx4 (i : Nat) (h : Int → Int → Int) (f : EF) (j : Int) (e : Env) (x : Int) : Option (Fl × Env) := (f e).bind (kAx5 i h j x)
def kAx3 (i : Nat) (h : Int → Int → Int) (f : EF) (j : Int) (e : Env) (t : T) : Option (Fl × Env) := (asI t).bind (kAx4 i h f j e)
def kAx2 (i : Nat) (h : Int → Int → Int) (f : EF) (j : Int) (e : Env) (us : List T) : Option (Fl × Env) := (atI us j).bind (kAx3 i h f j e)
def kAx1 (i : Nat) (h : Int → Int → Int) (f : EF) (e : Env) (j : Int) : Option (Fl × Env) := if 0 ≤ j then (atL e i).bind (kAx2 i h f j e) else none
def kAx0 (i : Nat) (h : Int → Int → Int) (f : EF) (s : T × Env) : Option (Fl × Env) := (asI s.1).bind (kAx1 i h f s.2)
def kAx (i : Nat) (h : Int → Int → Int) (fj f : EF) (env : Env) (_ : List T) : Option (Fl × Env) := (fj env).bind (kAx0 i h f)
variable {h : Int → Int → Int} {x y : Int}
theorem sAugIx_q : sAugIx i h fa f env = (atL env i).bind (kAx i h fa f env) := id rfl
theorem kAx_q : kAx i h fa f env us = (fa env).bind (kAx0 i h f) := id rfl
theorem kAx0_q : kAx0 i h f (t, e) = (asI t).bind (kAx1 i h f e) := id rfl
theorem kAx1_q (hz : 0 ≤ z) : kAx1 i h f e z = (atL e i).bind (kAx2 i h f z e) := if_pos hz
theorem kAx2_q : kAx2 i h f z e us = (atI us z).bind (kAx3 i h f z e) := id rfl
theorem kAx3_q : kAx3 i h f z e t = (asI t).bind (kAx4 i h f z e) := id rfl
theorem kAx4_q : kAx4 i h f z e x = (f e).bind (kAx5 i h z x) := id rfl
theorem kAx5_q : kAx5 i h z x (t, e) = (asI t).bind (kAx6 i h z x e) := id rfl
theorem kAx6_q : kAx6 i h z x e y = (atL e i).bind (kAx7 i h z x y e) := id rfl
theorem kAx7_q : kAx7 i h z x y e us = (ixN us.length z).map (kAx8 i h x y e us) := id rfl
theorem kAx8_q : kAx8 i h x y e us k = (.nx, e.set i (some (.lst (us.set k (.p (.int (h x y))))))) := id rfl
def kAug3 (i : Nat) (e : Env) (d : D) : Option (Fl × Env) := if i < e.length then some (.nx, e.set i (some (.p d))) else none
def kAug2 (i : Nat) (g : D → D → Option D) (a : D) : T × Env → Option (Fl × Env)
  | (.p b, e) => (g a b).bind (kAug3 i e)
  | _ => none
def kAug (i : Nat) (g : D → D → Option D) (f : EF) (env : Env) : Option (Option T) → Option (Fl × Env)
  | some (some (.p a)) => (f env).bind (kAug2 i g a)
  | _ => none
theorem sAug_q {g : D → D → Option D} : sAug i g f env = kAug i g f env env[i]? := by
  unfold sAug
  generalize env[i]? = o
  cases o with
  | none => rfl
  | some o => cases o with
    | none => rfl
    | some t => cases t with
      | p a =>
        show (f env).bind _ = (f env).bind _
        congr 1; funext r; obtain ⟨r, e⟩ := r; cases r <;> rfl
      | _ => rfl
theorem kAug_q {g : D → D → Option D} : kAug i g f env (some (some (.p a))) = (f env).bind (kAug2 i g a) := id rfl
theorem kAug2_q {g : D → D → Option D} : kAug2 i g a (.p b, e) = (g a b).bind (kAug3 i e) := id rfl
theorem kAug3_q : kAug3 i e d = if i < e.length then some (.nx, e.set i (some (.p d))) else none := id rfl
def kCp4 (t : T) (z : List T × Env) : List T × Env := (t :: z.1, z.2)
def kCp3 (own : List Nat) (G : GF) (test : CF) (elt : EF) (ds : List D) (s : T × Env) : Option (List T × Env) := (compD own G test elt ds (wipeE s.2 own)).map (kCp4 s.1)
def kCp2 (own : List Nat) (G : GF) (test : CF) (elt : EF) (ds : List D) (r : Bool × Env) : Option (List T × Env) := if r.1 then (elt r.2).bind (kCp3 own G test elt ds) else compD own G test elt ds (wipeE r.2 own)
def kCp1 (own : List Nat) (G : GF) (test : CF) (elt : EF) (ds : List D) (e1 : Env) : Option (List T × Env) := (test e1).bind (kCp2 own G test elt ds)
variable {own : List Nat}
theorem comp_n : compD own G c f [] env = some ([], env) := id rfl
theorem comp_c : compD own G c f (d :: ds) env = (G (.p d) env).bind (kCp1 own G c f ds) := id rfl
theorem kCp1_q : kCp1 own G c f ds e = (c e).bind (kCp2 own G c f ds) := id rfl
theorem kCp2_t : kCp2 own G c f ds (true, e) = (f e).bind (kCp3 own G c f ds) := id rfl
theorem kCp2_f : kCp2 own G c f ds (false, e) = compD own G c f ds (wipeE e own) := id rfl
theorem kCp3_q : kCp3 own G c f ds (t, e) = (compD own G c f ds (wipeE e own)).map (kCp4 t) := id rfl
theorem kCp4_q : kCp4 t (ts, e) = (t :: ts, e) := id rfl
def kLs (z : List T × Env) : T × Env := (.lst z.1, z.2)
def kComp (own : List Nat) (G : GF) (test : CF) (elt : EF) (r : List D × Env) : Option (T × Env) := if r.1.length ≤ 1000000 then (compD own G test elt r.1 (wipeE r.2 own)).map kLs else none
theorem eComp_q {fi : IF} : eComp own fi G c f env = (fi env).bind (kComp own G c f) := id rfl
theorem kComp_q : kComp own G c f (ds, e) = if ds.length ≤ 1000000 then (compD own G c f ds (wipeE e own)).map kLs else none := id rfl
theorem kLs_q : kLs (ts, e) = (.lst ts, e) := id rfl
theorem cYes_q : cYes env = some (true, env) := id rfl
theorem wipe_n : wipeE env [] = env := id rfl
theorem wipe_c {v : Nat} {vs : List Nat} : wipeE env (v :: vs) = (wipeE env vs).set v none := id rfl
def kM12 (g : Str → Str → Option D) (x : T) : T × Env → Option (T × Env)
  | (.p (.str b), e) => match x with | .p (.str a) => (g a b).map (kP e) | _ => none
  | _ => none
def kM11 (g : Str → Str → Option D) (fe : EF) (x : T × Env) : Option (T × Env) := (fe x.2).bind (kM12 g x.1)
theorem eM1_q {g : Str → Str → Option D} : eM1 g fa fb env = (fa env).bind (kM11 g fb) := by
  unfold eM1; congr 1; funext x; unfold kM11; congr 1; funext y; obtain ⟨y, e⟩ := y; obtain ⟨x, e'⟩ := x
  cases y with
  | p d2 => cases d2 with
    | str s2 => cases x with
      | p d => cases d <;> rfl
      | _ => rfl
    | _ => cases x with
      | p d => cases d <;> rfl
      | _ => rfl
  | _ => cases x with
    | p d => cases d <;> rfl
    | _ => rfl
theorem kM11_q {g : Str → Str → Option D} : kM11 g fb (t, e) = (fb e).bind (kM12 g t) := id rfl
theorem kM12_q {g : Str → Str → Option D} {s s' : Str} : kM12 g (.p (.str s)) (.p (.str s'), e) = (g s s').map (kP e) := id rfl
def kSp2 (x : T) (y : T × Env) : Option (T × Env) := match x, y.1 with
  | .p (.str a), .p (.str b) => if (b.length == 0) = false ∧ a.length + 2 ≤ 16777216 then some (.lst (((Txt.split a b).map D.str).map T.p), y.2) else none
  | _, _ => none
def kSp1 (fe : EF) (x : T × Env) : Option (T × Env) := (fe x.2).bind (kSp2 x.1)
theorem eSplit_q : eSplit fa fb env = (fa env).bind (kSp1 fb) := id rfl
theorem kSp1_q : kSp1 fb (t, e) = (fb e).bind (kSp2 t) := id rfl
theorem kSp2_q {s s' : Str} : kSp2 (.p (.str s)) (.p (.str s'), e) = if (s'.length == 0) = false ∧ s.length + 2 ≤ 16777216 then some (.lst (((Txt.split s s').map D.str).map T.p), e) else none := id rfl
def kJn4 (a : Str) (e : Env) (ys : List Str) : Option (T × Env) := if (ys.map (·.length)).sum + ys.length * a.length ≤ 16777216 then some (.p (.str (Txt.join a ys)), e) else none
def kJn3 (a : Str) (e : Env) (ds : List D) : Option (T × Env) := (strsD ds).bind (kJn4 a e)
def kJn2 (x : T) (y : T × Env) : Option (T × Env) := match x with
  | .p (.str a) => (itemsT y.1).bind (kJn3 a y.2)
  | _ => none
def kJn1 (fe : EF) (x : T × Env) : Option (T × Env) := (fe x.2).bind (kJn2 x.1)
theorem eJoin_q : eJoin fa fb env = (fa env).bind (kJn1 fb) := id rfl
theorem kJn1_q : kJn1 fb (t, e) = (fb e).bind (kJn2 t) := id rfl
theorem kJn2_q {s : Str} : kJn2 (.p (.str s)) (t, e) = (itemsT t).bind (kJn3 s e) := id rfl
theorem kJn3_q {s : Str} : kJn3 s e ds = (strsD ds).bind (kJn4 s e) := id rfl
theorem kJn4_q {s : Str} {ys : List Str} : kJn4 s e ys = if (ys.map (·.length)).sum + ys.length * s.length ≤ 16777216 then some (.p (.str (Txt.join s ys)), e) else none := id rfl
def kCt3 (x y : T) (e : Env) (ds es : List D) : Option (T × Env) := if isLT x = true ∧ isLT y = true ∧ ds.length + es.length ≤ 16777216 then some (.lst ((ds ++ es).map T.p), e) else none
def kCt2 (x y : T) (e : Env) (ds : List D) : Option (T × Env) := (itemsT y).bind (kCt3 x y e ds)
def kCt1 (x : T) (y : T × Env) : Option (T × Env) := (itemsT x).bind (kCt2 x y.1 y.2)
def kCt0 (fb : EF) (x : T × Env) : Option (T × Env) := (fb x.2).bind (kCt1 x.1)
theorem eCat_q : eCat fa fb env = (fa env).bind (kCt0 fb) := id rfl
theorem kCt0_q : kCt0 fb (t, e) = (fb e).bind (kCt1 t) := id rfl
theorem kCt1_q : kCt1 t (u, e) = (itemsT t).bind (kCt2 t u e) := id rfl
theorem kCt2_q : kCt2 t u e ds = (itemsT u).bind (kCt3 t u e ds) := id rfl
theorem kCt3_pl {as : List D} (h3 : ds.length + es.length ≤ 16777216) : kCt3 (.p (.lst as)) (.lst us) e ds es = some (.lst ((ds ++ es).map T.p), e) := if_pos ⟨id rfl, id rfl, h3⟩
theorem kCt3_ll {ws : List T} (h3 : ds.length + es.length ≤ 16777216) : kCt3 (.lst ws) (.lst us) e ds es = some (.lst ((ds ++ es).map T.p), e) := if_pos ⟨id rfl, id rfl, h3⟩
theorem kCt3_lp {as : List D} (h3 : ds.length + es.length ≤ 16777216) : kCt3 (.lst us) (.p (.lst as)) e ds es = some (.lst ((ds ++ es).map T.p), e) := if_pos ⟨id rfl, id rfl, h3⟩
theorem kCt3_pp {as bs : List D} (h3 : ds.length + es.length ≤ 16777216) : kCt3 (.p (.lst as)) (.p (.lst bs)) e ds es = some (.lst ((ds ++ es).map T.p), e) := if_pos ⟨id rfl, id rfl, h3⟩
theorem itemsT_p : itemsT (.p (.lst ds)) = some ds := id rfl
theorem itemsT_t : itemsT (.p (.tup ds)) = some ds := id rfl
theorem itemsT_ll : itemsT (.lst ts) = allP ts := id rfl
theorem isLT_p : isLT (.p (.lst ds)) = true := id rfl
theorem isLT_l : isLT (.lst ts) = true := id rfl
variable {kd : List (Key × D)} {ky : Key} {st : Str}
theorem eDn_q : eDn env = some (.dic (pairsT []), env) := id rfl
def kDx4 (ds : List (Key × D)) (e : Env) (k : Key) : Option (T × Env) := (valD ds k).map (kP e)
def kDx3 (u : T) (e : Env) (ds : List (Key × D)) : Option (T × Env) := (keyT u).bind (kDx4 ds e)
def kDx2 (t : T) (s : T × Env) : Option (T × Env) := (dicT t).bind (kDx3 s.1 s.2)
def kDx1 (fi : EF) (r : T × Env) : Option (T × Env) := (fi r.2).bind (kDx2 r.1)
theorem eDix_q : eDix fa fb env = (fa env).bind (kDx1 fb) := id rfl
theorem kDx1_q : kDx1 fb (t, e) = (fb e).bind (kDx2 t) := id rfl
theorem kDx2_q : kDx2 t (u, e) = (dicT t).bind (kDx3 u e) := id rfl
theorem kDx3_q : kDx3 u e kd = (keyT u).bind (kDx4 kd e) := id rfl
theorem kDx4_q : kDx4 kd e ky = (valD kd ky).map (kP e) := id rfl
def kDg5 (u : T) (e : Env) (ds : List (Key × D)) (k : Key) : Option (T × Env) := match u with
  | .p z => some (.p ((valD ds k).getD z), e)
  | _ => none
def kDg4 (s u : T) (e : Env) (ds : List (Key × D)) : Option (T × Env) := (keyT s).bind (kDg5 u e ds)
def kDg3 (t s : T) (u : T × Env) : Option (T × Env) := (dicT t).bind (kDg4 s u.1 u.2)
def kDg2 (t : T) (fx : EF) (s : T × Env) : Option (T × Env) := (fx s.2).bind (kDg3 t s.1)
def kDg1 (fi fx : EF) (r : T × Env) : Option (T × Env) := (fi r.2).bind (kDg2 r.1 fx)
theorem eDget_q : eDget fa fb fc env = (fa env).bind (kDg1 fb fc) := id rfl
theorem kDg1_q : kDg1 fb fc (t, e) = (fb e).bind (kDg2 t fc) := id rfl
theorem kDg2_q : kDg2 t fc (u, e) = (fc e).bind (kDg3 t u) := id rfl
theorem kDg3_q {x : T} : kDg3 t u (x, e) = (dicT t).bind (kDg4 u x e) := id rfl
theorem kDg4_q {x : T} : kDg4 u x e kd = (keyT u).bind (kDg5 x e kd) := id rfl
theorem kDg5_q : kDg5 (.p d) e kd ky = some (.p ((valD kd ky).getD d), e) := id rfl
def kDi4 (b : Bool) (e : Env) (ds : List (Key × D)) (k : Key) : Option (T × Env) := some (.p (.bl (if b then (valD ds k).isSome else !(valD ds k).isSome)), e)
def kDi3 (b : Bool) (s : T) (e : Env) (ds : List (Key × D)) : Option (T × Env) := (keyT s).bind (kDi4 b e ds)
def kDi2 (b : Bool) (s : T) (r : T × Env) : Option (T × Env) := (dicT r.1).bind (kDi3 b s r.2)
def kDi1 (b : Bool) (fo : EF) (s : T × Env) : Option (T × Env) := (fo s.2).bind (kDi2 b s.1)
theorem eDin_q {b : Bool} : eDin b fa fb env = (fa env).bind (kDi1 b fb) := id rfl
theorem kDi1_q {b : Bool} : kDi1 b fb (t, e) = (fb e).bind (kDi2 b t) := id rfl
theorem kDi2_q {b : Bool} : kDi2 b t (u, e) = (dicT u).bind (kDi3 b t e) := id rfl
theorem kDi3_q {b : Bool} : kDi3 b t e kd = (keyT t).bind (kDi4 b e kd) := id rfl
theorem kDi4_t : kDi4 true e kd ky = some (.p (.bl (valD kd ky).isSome), e) := id rfl
theorem kDi4_f : kDi4 false e kd ky = some (.p (.bl (!(valD kd ky).isSome)), e) := id rfl
def kPd5 (i : Nat) (t : T) (e : Env) (k : Key) (kvs : List (Key × D)) : Option (Fl × Env) := match t with
  | .p d => if kvs.length < 16000000 then some (.nx, e.set i (some (.dic (pairsT (putD kvs k d))))) else none
  | _ => none
def kPd4 (i : Nat) (t : T) (e : Env) (k : Key) : Option (Fl × Env) := (atD e i).bind (kPd5 i t e k)
def kPd3 (i : Nat) (t : T) (s : T × Env) : Option (Fl × Env) := (keyT s.1).bind (kPd4 i t s.2)
def kPd2 (i : Nat) (fk : EF) (t : T) (e : Env) (_ : List (Key × D)) : Option (Fl × Env) := (fk e).bind (kPd3 i t)
def kPd1 (i : Nat) (fk : EF) (r : T × Env) : Option (Fl × Env) := (atD r.2 i).bind (kPd2 i fk r.1 r.2)
theorem sPutD_q : sPutD i fa f env = (f env).bind (kPd1 i fa) := id rfl
theorem kPd1_q : kPd1 i fa (t, e) = (atD e i).bind (kPd2 i fa t e) := id rfl
theorem kPd2_q : kPd2 i fa t e kd = (fa e).bind (kPd3 i t) := id rfl
theorem kPd3_q : kPd3 i t (u, e) = (keyT u).bind (kPd4 i t e) := id rfl
theorem kPd4_q : kPd4 i t e ky = (atD e i).bind (kPd5 i t e ky) := id rfl
theorem kPd5_q : kPd5 i (.p d) e ky kd = if kd.length < 16000000 then some (.nx, e.set i (some (.dic (pairsT (putD kd ky d))))) else none := id rfl
def kAtD : Option (Option T) → Option (List (Key × D))
  | some (some (.dic kvs)) => frzK kvs
  | _ => none
theorem atD_q : atD env i = kAtD env[i]? := id rfl
theorem kAtD_q : kAtD (some (some (.dic (pairsT kd)))) = some kd := frzK_pairs kd
theorem dicT_p : dicT (.p (.dic kd)) = some kd := id rfl
theorem dicT_o : dicT (.dic (pairsT kd)) = some kd := frzK_pairs kd
theorem keyT_i : keyT (.p (.int z)) = some (.inl z) := id rfl
theorem keyT_s : keyT (.p (.str st)) = some (.inr st) := id rfl
theorem toD_d : ∀ kd : List (Key × D), (T.dic (pairsT kd)).toD = .dic kd := fun kd => by
  have h : ∀ kd : List (Key × D), T.toKs (pairsT kd) = kd := fun kd => by
    induction kd with
    | nil => rfl
    | cons x r ih => obtain ⟨k, d⟩ := x; show (k, (T.p d).toD) :: T.toKs (pairsT r) = _; rw [ih]; rfl
  show D.dic (T.toKs (pairsT kd)) = _
  rw [h]
theorem kV_d : kV env i (some (some (.dic (pairsT kd)))) = some (.p (.dic kd), env.set i (some (.p (.dic kd)))) := by
  show some (T.p (T.dic (pairsT kd)).toD, env.set i (some (.p (T.dic (pairsT kd)).toD))) = _
  rw [toD_d]
def kForM (G : GF) (body : SF) (r : T × Env) : Option (Fl × Env) := match r.1 with
  | .lst us => loopT G body us r.2
  | _ => none
theorem sForM_q : sForM f G F env = (f env).bind (kForM G F) := id rfl
theorem kForM_q : kForM G F (.lst ts, e) = loopT G F ts e := id rfl
def kLt2 (G : GF) (body : SF) (ts : List T) (r : Fl × Env) : Option (Fl × Env) := match r.1 with
  | .nx => loopT G body ts r.2
  | .ct => loopT G body ts r.2
  | .bk => some (.nx, r.2)
  | .rt t => some (.rt t, r.2)
def kLt1 (G : GF) (body : SF) (ts : List T) (e : Env) : Option (Fl × Env) := (body e).bind (kLt2 G body ts)
theorem loopT_n : loopT G F [] env = some (.nx, env) := id rfl
theorem loopT_c : loopT G F (t :: ts) env = (G t env).bind (kLt1 G F ts) := id rfl
theorem kLt1_q : kLt1 G F ts e = (F e).bind (kLt2 G F ts) := id rfl
theorem kLt2_n : kLt2 G F ts (.nx, e) = loopT G F ts e := id rfl
theorem kLt2_r : kLt2 G F ts (.rt t, e) = some (.rt t, e) := id rfl
def kM0 (g : Str → Option D) (x : T × Env) : Option (T × Env) := match x.1 with
  | .p (.str a) => (g a).map (kP x.2)
  | _ => none
theorem eM0_q {g : Str → Option D} : eM0 g f env = (f env).bind (kM0 g) := id rfl
theorem kM0_q {g : Str → Option D} : kM0 g (.p (.str st), e) = (g st).map (kP e) := id rfl
def kR3 (r : List T × Env) : Option (List D × Env) := match r.1 with
  | [.p (.int i), .p (.int j), .p (.int c)] => if c ≠ 0 ∧ c.natAbs < 1073741824 ∧ Builtin.Range.small i j c = true ∧ Builtin.Range.rangeSize i j c = ((Builtin.Range.rangeSize i j c).toNat : Int) then some (rng3D i c (Builtin.Range.rangeSize i j c).toNat, r.2) else none
  | _ => none
theorem iR3_q : iR3 r env = (r env).bind kR3 := id rfl
def kRun (r : Fl × Env) : Option T := match r.1 with
  | .rt t => some t
  | .nx => some (.p .non)
  | _ => none
theorem runF_q : runF n k F ds = if ds.length = k then (F (startE n ds)).bind kRun else none := id rfl
theorem kRun_r : kRun (.rt t, e) = some t := id rfl
theorem kRun_n : kRun (.nx, e) = some (.p .non) := id rfl
end DL
namespace DL
open PySem PySem.Spec PyProof.Rows L2
abbrev sg (l : List Nat) : Str := ⟨l.toArray⟩
theorem sg_len (l : List Nat) : (sg l).length = l.length := by rw [TL.len_tl]
theorem sg_app (a b : List Nat) : sg a ++ sg b = sg (a ++ b) := TL.ext_tl (TL.tl_append (sg a) (sg b))
theorem sg_inj {a b : List Nat} : sg a = sg b ↔ a = b := ⟨fun h => congrArg TL.tl h, fun h => by rw [h]⟩
def cod (s : String) : List Nat := s.toList.map Char.toNat
theorem ofS (s : String) : PySem.Str.ofString s = sg (cod s) := TL.ext_tl (TL.tl_ofString s)
theorem sg_ok (l : List Nat) : PyData.strOk (sg l) = l.all (fun c => decide (c < 1114112)) := by
  show (l.toArray).all _ = _
  rw [List.all_toArray]
theorem gAdd_g {a b : List Nat} (h : a.length + b.length ≤ 16777216) : gAdd (.str (sg a)) (.str (sg b)) = some (.str (sg (a ++ b))) := by
  rw [gAdd_s (by rw [sg_len, sg_len]; exact h), sg_app]
theorem ixT_sg {l : List Nat} {i : Int} (h : l.length ≤ 16777216) : ixT (.p (.str (sg l))) i = (atI l i).map fun c => .p (.str (sg [c])) := if_pos (by rw [sg_len]; exact h)
theorem eqQ_g {a b : List Nat} : eqQ (.str (sg a)) (.str (sg b)) = some (decide (a = b)) := by
  rw [eqQ_s]
  congr 1
  rw [Bool.eq_iff_iff]; simp [sg_inj]
theorem neQ_g {a b : List Nat} : neQ (.str (sg a)) (.str (sg b)) = some (!decide (a = b)) := by unfold neQ; rw [eqQ_g]; rfl
theorem repS_g (a : List Nat) (n : Int) : repS (sg a) n = sg (List.replicate n.toNat a).flatten := rfl
theorem gMulA_g {a : List Nat} {n : Int} (h1 : -1000000000 < n) (h2 : n < 1000000000) (h : a.length * n.toNat ≤ 16777216) : gMulA (.str (sg a)) (.int n) = some (.str (sg (List.replicate n.toNat a).flatten)) := by
  show (if _ then _ else none) = _
  rw [if_pos ⟨h1, h2, by rw [sg_len]; exact h⟩, repS_g]
theorem inQ_g (c : Nat) (l : List Nat) : inQ (.str (sg [c])) (.str (sg l)) = some (decide (c ∈ l)) := rfl
theorem signsD_g (l : List Nat) : signsD (sg l) = l.map fun c => .str (sg [c]) := rfl
theorem join_g (s : List Nat) (ls : List (List Nat)) : Txt.join (sg s) (ls.map sg) = sg (TL.joinL s ls) := by
  rw [TL.join_eq]
  apply TL.ext_tl
  rw [TL.tl_join, List.map_map]
  show TL.joinL s (ls.map fun l => l) = TL.joinL s ls
  rw [List.map_id']
def dg (i : Int) : List Nat := cod (toString i)
theorem toS (i : Int) : ((toString i : String) : Str) = sg (dg i) := ofS _
theorem gStr_i {i : Int} (h1 : -1606938044258990275541962092341162602522202993782792835301376 < i) (h2 : i < 1606938044258990275541962092341162602522202993782792835301376) : gStr (.p (.int i)) = some (.str (sg (dg i))) := by
  show (if _ then some (D.str (toString i)) else none) = _
  rw [if_pos (by omega), toS]
theorem gStr_s {s : Str} : gStr (.p (.str s)) = some (.str s) := rfl
theorem cod_ok (s : String) : ∀ c ∈ cod s, c < 1114112 := by
  intro c h
  obtain ⟨x, _, rfl⟩ := List.mem_map.mp h
  have hv : x.val.isValidChar := x.valid
  have h0 : x.toNat = x.val.toNat := rfl
  rw [h0]
  rcases hv with h | h <;> (have := h; simp only [UInt32.toNat] at *; omega)
mutual
def dOk : Nat → D → Bool
  | _, .non => true
  | _, .bl _ => true
  | _, .int _ => true
  | _, .str s => PyData.strOk s
  | 0, .lst _ => false
  | n + 1, .lst ds => dOks n ds
  | 0, .tup _ => false
  | n + 1, .tup ds => dOks n ds
  | _, .dic _ => false
  | _, .dit _ => false
  | _, .obj _ _ => false
  | _, .al _ => false
  | _, .din _ => false
  | 0, .tux _ => false
  | n + 1, .tux ds => dOks n ds
def dOks : Nat → List D → Bool
  | _, [] => true
  | n, d :: ds => dOk n d && dOks n ds
end
mutual
theorem dOk_py : ∀ (n : Nat) (d : D), dOk n d = true → ∃ p, toPy d = some p ∧ p.canLay0 = true ∧ p.depth ≤ n ∧ PyData.eqv p p = true
  | _, .non, _ => ⟨.none, rfl, rfl, Nat.zero_le _, rfl⟩
  | _, .bl b, _ => ⟨.bool b, rfl, rfl, Nat.zero_le _, by simp [PyData.eqv]⟩
  | _, .int b, _ => ⟨.int b, rfl, rfl, Nat.zero_le _, by simp [PyData.eqv]⟩
  | _, .str b, h => ⟨.str b, rfl, by unfold dOk at h; exact h, Nat.zero_le _, by simp [PyData.eqv]⟩
  | 0, .lst _, h => by unfold dOk at h; cases h
  | n + 1, .lst ds, h => by
    unfold dOk at h
    obtain ⟨ps, h1, h2, h3, h4⟩ := dOks_py n ds h
    refine ⟨.list ps, by show (toPys ds).map _ = _; rw [h1]; rfl, h2, ?_, by rw [PyData.eqv]; exact h4⟩
    show PyData.depthAll ps + 1 ≤ n + 1
    omega
  | 0, .tup _, h => by unfold dOk at h; cases h
  | n + 1, .tup ds, h => by
    unfold dOk at h
    obtain ⟨ps, h1, h2, h3, h4⟩ := dOks_py n ds h
    refine ⟨.tuple ps, by show (toPys ds).map _ = _; rw [h1]; rfl, h2, ?_, by rw [PyData.eqv]; exact h4⟩
    show PyData.depthAll ps + 1 ≤ n + 1
    omega
  | _, .dic _, h => by unfold dOk at h; cases h
  | _, .dit _, h => by unfold dOk at h; cases h
  | _, .obj _ _, h => by unfold dOk at h; cases h
  | _, .al _, h => by unfold dOk at h; cases h
  | _, .din _, h => by unfold dOk at h; cases h
  | 0, .tux _, h => by unfold dOk at h; cases h
  | n + 1, .tux ds, h => by
    unfold dOk at h
    obtain ⟨ps, h1, h2, h3, h4⟩ := dOks_py n ds h
    refine ⟨.tuple ps, by show (toPys ds).map _ = _; rw [h1]; rfl, h2, ?_, by rw [PyData.eqv]; exact h4⟩
    show PyData.depthAll ps + 1 ≤ n + 1
    omega
theorem dOks_py : ∀ (n : Nat) (ds : List D), dOks n ds = true → ∃ ps, toPys ds = some ps ∧ PyData.canLayAll0 ps = true ∧ PyData.depthAll ps ≤ n ∧ PyData.eqvAll ps ps = true
  | _, [], _ => ⟨[], rfl, rfl, Nat.zero_le _, rfl⟩
  | n, d :: ds, h => by
    unfold dOks at h
    rw [Bool.and_eq_true] at h
    obtain ⟨p, h1, h2, h3, h4⟩ := dOk_py n d h.1
    obtain ⟨ps, k1, k2, k3, k4⟩ := dOks_py n ds h.2
    refine ⟨p :: ps, by show (toPy d).bind _ = _; rw [h1]; show (toPys ds).map _ = _; rw [k1]; rfl, ?_, ?_, ?_⟩
    · show (p.canLay0 && PyData.canLayAll0 ps) = true
      rw [h2, k2]; rfl
    · show max p.depth (PyData.depthAll ps) ≤ n
      omega
    · show (PyData.eqv p p && PyData.eqvAll ps ps) = true
      rw [h4, k4]; rfl
end
theorem eqQ_refl {d : D} (n : Nat) (hn : n ≤ 64) (h : dOk n d = true) : eqQ d d = some true := by
  have deep : eqDeep d d = some true := by
    obtain ⟨p, h1, h2, h3, h4⟩ := dOk_py n d h
    unfold eqDeep
    rw [h1]
    show (if (SeqAt.shaped p && SeqAt.shaped p) = true then some (PyData.eqv p p) else none) = some true
    have hs : SeqAt.shaped p = true := by
      unfold SeqAt.shaped
      rw [h2, decide_eq_true (by omega)]; rfl
    rw [hs, h4]; rfl
  cases d with
  | int i => rw [eqQ_i]; simp
  | str i => rw [eqQ_s]; simp
  | bl i => rw [eqQ_b]; simp
  | non => rfl
  | lst ds => exact deep
  | tup ds => exact deep
  | dic ds => exact deep
  | dit ds => exact deep
  | obj _ ds => exact deep
  | al _ => exact deep
  | din _ => exact deep
  | tux ds => exact deep
theorem dOks_all {n : Nat} : ∀ {ds : List D}, (∀ d ∈ ds, dOk n d = true) → dOks n ds = true
  | [], _ => by unfold dOks; rfl
  | d :: ds, h => by unfold dOks; rw [h d (by simp), dOks_all fun x hx => h x (by simp [hx])]; rfl
theorem dOk_lst {n : Nat} {ds : List D} (h : ∀ d ∈ ds, dOk n d = true) : dOk (n + 1) (.lst ds) = true := by unfold dOk; exact dOks_all h
theorem dOk_tup {n : Nat} {ds : List D} (h : ∀ d ∈ ds, dOk n d = true) : dOk (n + 1) (.tup ds) = true := by unfold dOk; exact dOks_all h
theorem dOk_int {n : Nat} {i : Int} : dOk n (.int i) = true := by unfold dOk; rfl
theorem dOk_sg {n : Nat} {l : List Nat} (h : ∀ c ∈ l, c < 1114112) : dOk n (.str (sg l)) = true := by
  unfold dOk
  rw [sg_ok, List.all_eq_true]
  exact fun c hc => decide_eq_true (h c hc)
theorem atI_in {α : Type} {xs : List α} {i : Int} (h0 : 0 ≤ i) (h1 : i < xs.length) : ∃ x, x ∈ xs ∧ atI xs i = some x ∧ xs[i.toNat]? = some x := by
  have hlt : i.toNat < xs.length := by omega
  refine ⟨xs[i.toNat], List.getElem_mem hlt, ?_, List.getElem?_eq_getElem hlt⟩
  have := atI_nat (xs := xs) (j := i.toNat) (List.getElem?_eq_getElem hlt)
  rwa [show ((i.toNat : Nat) : Int) = i by omega] at this
theorem ifLe {α : Type} {n m : Nat} {a b : α} (h : n ≤ m) : (if n ≤ m then a else b) = a := if_pos h
theorem ifLt {α : Type} {n m : Nat} {a b : α} (h : n < m) : (if n < m then a else b) = a := if_pos h
theorem rng_len (lo : Int) (n : Nat) : (rngD lo n).length = n := by simp [rngD]
theorem rngD_cons (lo : Int) (n : Nat) : rngD lo (n + 1) = .int lo :: rngD (lo + 1) n := by
  unfold rngD
  rw [List.range_succ_eq_map, List.map_cons, List.map_map]
  congr 1
  · simp
  · apply List.map_congr_left
    intro k _
    show D.int (lo + ((k + 1 : Nat) : Int)) = D.int (lo + 1 + (k : Int))
    rw [show lo + ((k + 1 : Nat) : Int) = lo + 1 + (k : Int) by omega]
theorem sIx_i {n d : Nat} {k : Int} (h : 0 ≤ k) : HT.sIx n d (some k) = min k.toNat n := by
  show (if k < 0 then (k + (n : Int)).toNat else min k.toNat n) = _
  rw [if_neg (by omega)]
theorem notInQ_g (c : Nat) (l : List Nat) : notInQ (.str (sg [c])) (.str (sg l)) = some (!decide (c ∈ l)) := rfl
theorem gLen_g {l : List Nat} (h : l.length ≤ 16777216) : gLen (.p (.str (sg l))) = some (.int (l.length : Int)) := by
  show ((if (sg l).length ≤ 16777216 then some (((sg l).length : Nat) : Int) else none)).map D.int = _
  rw [sg_len, if_pos h]; rfl
theorem valD_cons (k j : Key) (d : D) (r : List (Key × D)) : valD ((j, d) :: r) k = if j = k then some d else valD r k := by
  by_cases c : j = k
  · rw [if_pos c]; simp [valD, List.find?_cons, c]
  · rw [if_neg c]; simp [valD, List.find?_cons, c]
end DL
namespace DL
open PySem PySem.Spec PyProof.Rows L2
section
variable {G : GF} {F : SF} {d : D} {ds : List D} {env e2 : DL.Env} {r : Option (Fl × DL.Env)} {own : List Nat} {c : CF} {el : EF}
end
def cutA {α : Type} (xs : List α) (lo hi : Option Int) : List α := (xs.drop (HT.sIx xs.length 0 lo)).take (HT.sIx xs.length xs.length hi - HT.sIx xs.length 0 lo)
theorem cutD_map {α : Type} (dd : α → D) (xs : List α) (lo hi : Option Int) : cutD (xs.map dd) lo hi = (cutA xs lo hi).map dd := by
  unfold cutD cutA
  rw [List.length_map, ← List.map_drop, ← List.map_take]
theorem cutA_len {α : Type} (xs : List α) (lo hi : Option Int) : (cutA xs lo hi).length ≤ xs.length := by
  unfold cutA
  rw [List.length_take, List.length_drop]; omega
theorem toDs_map2 {α : Type} (f : α → T) (g : α → D) (xs : List α) (h : ∀ x ∈ xs, (f x).toD = g x) : T.toDs (xs.map f) = xs.map g := by
  rw [toDs_map, List.map_map]
  exact List.map_congr_left h
end DL
set_option maxHeartbeats 2000000
namespace ZG
open PySem PySem.Spec PyProof.Rows L2
open PySem.Sem (wp)
structure Far (z TI TO i1 i2 : Addr) (d1 d2 : List Addr) : Prop where
  TIz : TI ≠ z
  TOz : TO ≠ z
  i1z : i1 ≠ z
  i2z : i2 ≠ z
  TITO : TI ≠ TO
  TIi1 : TI ≠ i1
  TIi2 : TI ≠ i2
  TOi1 : TO ≠ i1
  TOi2 : TO ≠ i2
  d1z : ∀ c ∈ d1, c ≠ z
  d1TO : ∀ c ∈ d1, c ≠ TO
  d1i2 : ∀ c ∈ d1, c ≠ i2
  d2z : ∀ c ∈ d2, c ≠ z
  d2TO : ∀ c ∈ d2, c ≠ TO
  d2i1 : ∀ c ∈ d2, c ≠ i1
section
variable {P : Program} {w : World} {A : Around} {E : Value → Shared → Prop} {s : Shared} {z TI TO i1 i2 : Addr} {d1 d2 : List Addr} {S1 S1' S2 S2' : Heap → Prop} {V1 V2 : Value → Prop} {a b : Value}
end
def chainZ (n : Nat) : List Addr := [n + 4, n + 2, n + 3, n, n + 1]
structure StZ (x : Str) (t : Tok) (b : Addr) (n k : Nat) (h : Heap) : Prop where
  zp : IsZip h (n + 4) (n + 2) (n + 3) .none
  pI : IsPair h (n + 2) (.ref n) (.ref (n + 1))
  pO : ∃ u v, IsPair h (n + 3) u v
  si : h.IsStrIter n "str_ascii_iterator" x t k
  li : h.IsListIter (n + 1) b k
theorem StZ.there {x : Str} {t : Tok} {b : Addr} {n k : Nat} {h : Heap} (S : StZ x t b n k h) : ∀ c ∈ chainZ n, ∃ o, h.get? c = some o ∧ ∀ v, o.data ≠ .cell v := fun c hc => by
  obtain ⟨u, v, pO⟩ := S.pO
  obtain ⟨o1, g1, _, d1⟩ := S.si
  obtain ⟨o2, g2, _, d2⟩ := S.li
  simp only [chainZ, List.mem_cons, List.not_mem_nil, or_false] at hc
  rcases hc with rfl | rfl | rfl | rfl | rfl
  · exact ⟨_, S.zp, fun _ q => nomatch q⟩
  · exact ⟨_, S.pI, fun _ q => nomatch q⟩
  · exact ⟨_, pO, fun _ q => nomatch q⟩
  · exact ⟨o1, g1, fun _ q => by rw [d1] at q; cases q⟩
  · exact ⟨o2, g2, fun _ q => by rw [d2] at q; cases q⟩
abbrev hz1 (h : Heap) (x : Str) (t : Tok) : Heap := h.push { cls := .type "str_ascii_iterator", data := .fields #[.str x t, .int 0 0] }
abbrev hz2 (h : Heap) (x : Str) (t : Tok) (b : Addr) : Heap := (hz1 h x t).push { cls := .type "list_iterator", data := .fields #[.ref b, .int 0 0] }
end ZG
namespace DL
open PySem PySem.Spec PyProof.Rows L2
variable {K : KW} {G1 : Hp}
end DL
set_option maxHeartbeats 1000000
namespace DL
open PySem PySem.Spec PyProof.Rows L2
inductive Stp where
  | key (k : Key) | tky (k : List Key) | ix (n : Nat) | it (n : Nat) | fld (f : Str)
def unb : T → T
  | .box _ t => t
  | t => t
def reb : T → T → T
  | .box a _, u => .box a u
  | _, u => u
def valT {κ : Type} [DecidableEq κ] : List (κ × T) → κ → Option T
  | [], _ => none
  | (j, t) :: r, k => if j = k then some t else valT r k
def setT {κ : Type} [DecidableEq κ] : List (κ × T) → κ → T → List (κ × T)
  | [], _, _ => []
  | (j, t) :: r, k, u => if j = k then (j, u) :: r else (j, t) :: setT r k u
def stepT : Stp → T → Option T
  | .key k, .dic kvs => valT kvs k
  | .tky k, .dit kvs => valT kvs k
  | .ix n, .lst ts => ts[n]?
  | .it n, .tup ts => ts[n]?
  | .fld f, .obj _ fs => valT fs f
  | _, _ => none
def setS : Stp → T → T → T
  | .key k, .dic kvs, u => .dic (setT kvs k u)
  | .tky k, .dit kvs, u => .dit (setT kvs k u)
  | .ix n, .lst ts, u => .lst (ts.set n u)
  | .it n, .tup ts, u => .tup (ts.set n u)
  | .fld f, .obj n fs, u => .obj n (setT fs f u)
  | _, t, _ => t
def getP : List Stp → T → Option T
  | [], t => some t
  | s :: P, t => (stepT s (unb t)).bind (getP P)
def setP : List Stp → T → T → T
  | [], _, u => u
  | s :: P, t, u => match stepT s (unb t) with
    | some c => reb t (setS s (unb t) (setP P c u))
    | none => t
def ChS (H : Hp) : Stp → V → V → Prop
  | .key k, v, w => ∃ a ws, v = .ref a ∧ H a = some (.dK ws) ∧ valV ws k = some w
  | .tky k, v, w => ∃ a ws, v = .ref a ∧ H a = some (.dT ws) ∧ valV ws k = some w
  | .ix n, v, w => ∃ a xs, v = .ref a ∧ H a = some (.lst xs) ∧ xs[n]? = some w
  | .it n, v, w => ∃ a xs, v = .ref a ∧ H a = some (.tup xs) ∧ xs[n]? = some w
  | .fld f, v, w => ∃ a C dx fs, v = .ref a ∧ H a = some (.ins C dx fs) ∧ fs.lookup f = some w
def Ch (H : Hp) : List Stp → V → V → Prop
  | [], v, w => w = v
  | s :: P, v, w => ∃ u, ChS H s v u ∧ Ch H P u w
theorem ChS.det {H : Hp} {s : Stp} {v w w' : V} (h : ChS H s v w) (h' : ChS H s v w') : w = w' := by
  cases s with
  | key k =>
    obtain ⟨a, ws, rfl, h2, h3⟩ := h
    obtain ⟨a', ws', e, h2', h3'⟩ := h'
    cases e
    rw [h2] at h2'; cases h2'
    rw [h3] at h3'; exact Option.some.inj h3'
  | tky k =>
    obtain ⟨a, ws, rfl, h2, h3⟩ := h
    obtain ⟨a', ws', e, h2', h3'⟩ := h'
    cases e
    rw [h2] at h2'; cases h2'
    rw [h3] at h3'; exact Option.some.inj h3'
  | ix n =>
    obtain ⟨a, ws, rfl, h2, h3⟩ := h
    obtain ⟨a', ws', e, h2', h3'⟩ := h'
    cases e
    rw [h2] at h2'; cases h2'
    rw [h3] at h3'; exact Option.some.inj h3'
  | it n =>
    obtain ⟨a, ws, rfl, h2, h3⟩ := h
    obtain ⟨a', ws', e, h2', h3'⟩ := h'
    cases e
    rw [h2] at h2'; cases h2'
    rw [h3] at h3'; exact Option.some.inj h3'
  | fld f =>
    obtain ⟨a, C, dx, ws, rfl, h2, h3⟩ := h
    obtain ⟨a', C', dx', ws', e, h2', h3'⟩ := h'
    cases e
    rw [h2] at h2'; cases h2'
    rw [h3] at h3'; exact Option.some.inj h3'
theorem Ch.det {H : Hp} : ∀ {P : List Stp} {v w w' : V}, Ch H P v w → Ch H P v w' → w = w'
  | [], _, _, _, h, h' => h.trans h'.symm
  | s :: P, _, _, _, ⟨u, h1, h2⟩, ⟨u', h1', h2'⟩ => by
    have := h1.det h1'
    subst this
    exact Ch.det h2 h2'
theorem ChS.same {H H' : Hp} (e : Same H H') {s : Stp} {v w : V} (h : ChS H s v w) : ChS H' s v w := by
  cases s with
  | key k => obtain ⟨a, ws, h1, h2, h3⟩ := h; exact ⟨a, ws, h1, e _ _ h2, h3⟩
  | tky k => obtain ⟨a, ws, h1, h2, h3⟩ := h; exact ⟨a, ws, h1, e _ _ h2, h3⟩
  | ix k => obtain ⟨a, ws, h1, h2, h3⟩ := h; exact ⟨a, ws, h1, e _ _ h2, h3⟩
  | it k => obtain ⟨a, ws, h1, h2, h3⟩ := h; exact ⟨a, ws, h1, e _ _ h2, h3⟩
  | fld k => obtain ⟨a, C, dx, ws, h1, h2, h3⟩ := h; exact ⟨a, C, dx, ws, h1, e _ _ h2, h3⟩
theorem Ch.same {H H' : Hp} (e : Same H H') : ∀ {P : List Stp} {v w : V}, Ch H P v w → Ch H' P v w
  | [], _, _, h => h
  | s :: P, _, _, ⟨u, h1, h2⟩ => ⟨u, h1.same e, Ch.same e h2⟩
theorem Ch.app {H : Hp} : ∀ {P : List Stp} {v w x : V} {s : Stp}, Ch H P v w → ChS H s w x → Ch H (P ++ [s]) v x
  | [], _, _, _, _, h, h' => by rw [show _ = _ from h] at h'; exact ⟨_, h', rfl⟩
  | s :: P, _, _, _, _, ⟨u, h1, h2⟩, h' => ⟨u, h1, Ch.app h2 h'⟩
section
variable {K : KW} {G H : Hp}
theorem RpTs.foc : ∀ {ts : List T} {vs : List V} {o : List Addr} {n : Nat} {u : T}, RpTs K G H ts vs o → ts[n]? = some u → ∃ w o1 o2, vs[n]? = some w ∧ Rp K G H u w o1 ∧ o.Perm (o1 ++ o2) ∧
    ∀ {G' H' : Hp} {u' : T} {o1' : List Addr}, Same G G' → (∀ a ∈ o2, H' a = H a) → Rp K G' H' u' w o1' → ∃ o', RpTs K G' H' (ts.set n u') vs o' ∧ o'.Perm (o1' ++ o2)
  | [], _, _, _, _, _, e => by simp at e
  | t :: ts, _, _, 0, u, ⟨v, r, o1, o2, h1, h2, h3, h4⟩, e => by
    simp at e; subst e; subst h1
    exact ⟨v, o1, o2, rfl, h2, by rw [h4], fun {G' H' u' o1'} sg k h => ⟨o1' ++ o2, ⟨v, r, o1', o2, rfl, h, h3.mono sg _ k, rfl⟩, .refl _⟩⟩
  | t :: ts, _, _, n + 1, u, ⟨v, r, o1, o2, h1, h2, h3, h4⟩, e => by
    subst h1
    obtain ⟨w, p1, p2, g1, g2, g3, g4⟩ := RpTs.foc (n := n) h3 (by simpa using e)
    refine ⟨w, p1, o1 ++ p2, by simpa using g1, g2, ?_, fun {G' H' u' o1'} sg k h => ?_⟩
    · rw [h4]; exact (List.Perm.append_left o1 g3).trans (perm_mid _ _ _)
    · obtain ⟨o', f1, f2⟩ := g4 sg (fun a ha => k a (by simp [ha])) h
      exact ⟨o1 ++ o', ⟨v, r, o1, o', rfl, h2.mono sg _ (fun a ha => k a (by simp [ha])), f1, rfl⟩, (List.Perm.append_left o1 f2).trans (perm_mid _ _ _)⟩
theorem RpTk.foc : ∀ {ts : List (Key × T)} {vs : List (Key × V)} {o : List Addr} {n : Key} {u : T}, RpTk K G H ts vs o → valT ts n = some u → ∃ w o1 o2, valV vs n = some w ∧ Rp K G H u w o1 ∧ o.Perm (o1 ++ o2) ∧
    ∀ {G' H' : Hp} {u' : T} {o1' : List Addr}, Same G G' → (∀ a ∈ o2, H' a = H a) → Rp K G' H' u' w o1' → ∃ o', RpTk K G' H' (setT ts n u') vs o' ∧ o'.Perm (o1' ++ o2)
  | [], _, _, _, _, _, e => by simp [valT] at e
  | (j, t) :: ts, _, _, n, u, ⟨v, r, o1, o2, h1, h2, h3, h4⟩, e => by
    subst h1
    by_cases c : j = n
    · rw [valT, if_pos c] at e; cases e
      refine ⟨v, o1, o2, valV_pos (by exact c), h2, by rw [h4], fun {G' H' u' o1'} sg k h => ⟨o1' ++ o2, ?_, .refl _⟩⟩
      rw [setT, if_pos c]
      exact ⟨v, r, o1', o2, rfl, h, h3.mono sg _ k, rfl⟩
    · rw [valT, if_neg c] at e
      obtain ⟨w, p1, p2, g1, g2, g3, g4⟩ := RpTk.foc h3 e
      refine ⟨w, p1, o1 ++ p2, (valV_neg (by exact c)).trans g1, g2, ?_, fun {G' H' u' o1'} sg k h => ?_⟩
      · rw [h4]; exact (List.Perm.append_left o1 g3).trans (perm_mid _ _ _)
      · obtain ⟨o', f1, f2⟩ := g4 sg (fun a ha => k a (by simp [ha])) h
        rw [setT, if_neg c]
        exact ⟨o1 ++ o', ⟨v, r, o1, o', rfl, h2.mono sg _ (fun a ha => k a (by simp [ha])), f1, rfl⟩, (List.Perm.append_left o1 f2).trans (perm_mid _ _ _)⟩
theorem RpTt.foc : ∀ {ts : List (List Key × T)} {vs : List (List Key × V)} {o : List Addr} {n : List Key} {u : T}, RpTt K G H ts vs o → valT ts n = some u → ∃ w o1 o2, valV vs n = some w ∧ Rp K G H u w o1 ∧ o.Perm (o1 ++ o2) ∧
    ∀ {G' H' : Hp} {u' : T} {o1' : List Addr}, Same G G' → (∀ a ∈ o2, H' a = H a) → Rp K G' H' u' w o1' → ∃ o', RpTt K G' H' (setT ts n u') vs o' ∧ o'.Perm (o1' ++ o2)
  | [], _, _, _, _, _, e => by simp [valT] at e
  | (j, t) :: ts, _, _, n, u, ⟨v, r, o1, o2, h1, h2, h3, h4⟩, e => by
    subst h1
    by_cases c : j = n
    · rw [valT, if_pos c] at e; cases e
      refine ⟨v, o1, o2, valV_pos (by exact c), h2, by rw [h4], fun {G' H' u' o1'} sg k h => ⟨o1' ++ o2, ?_, .refl _⟩⟩
      rw [setT, if_pos c]
      exact ⟨v, r, o1', o2, rfl, h, h3.mono sg _ k, rfl⟩
    · rw [valT, if_neg c] at e
      obtain ⟨w, p1, p2, g1, g2, g3, g4⟩ := RpTt.foc h3 e
      refine ⟨w, p1, o1 ++ p2, (valV_neg (by exact c)).trans g1, g2, ?_, fun {G' H' u' o1'} sg k h => ?_⟩
      · rw [h4]; exact (List.Perm.append_left o1 g3).trans (perm_mid _ _ _)
      · obtain ⟨o', f1, f2⟩ := g4 sg (fun a ha => k a (by simp [ha])) h
        rw [setT, if_neg c]
        exact ⟨o1 ++ o', ⟨v, r, o1, o', rfl, h2.mono sg _ (fun a ha => k a (by simp [ha])), f1, rfl⟩, (List.Perm.append_left o1 f2).trans (perm_mid _ _ _)⟩
theorem lookup_cons (j n : Str) (v : V) (r : List (Str × V)) : List.lookup n ((j, v) :: r) = if j = n then some v else List.lookup n r := by
  rw [List.lookup_cons]
  by_cases c : j = n
  · subst c; simp
  · rw [if_neg c]
    have : (n == j) = false := by simpa using fun e => c e.symm
    rw [this]
theorem RpTf.foc : ∀ {ts : List (Str × T)} {vs : List (Str × V)} {o : List Addr} {n : Str} {u : T}, RpTf K G H ts vs o → valT ts n = some u → ∃ w o1 o2, vs.lookup n = some w ∧ Rp K G H u w o1 ∧ o.Perm (o1 ++ o2) ∧
    ∀ {G' H' : Hp} {u' : T} {o1' : List Addr}, Same G G' → (∀ a ∈ o2, H' a = H a) → Rp K G' H' u' w o1' → ∃ o', RpTf K G' H' (setT ts n u') vs o' ∧ o'.Perm (o1' ++ o2)
  | [], _, _, _, _, _, e => by simp [valT] at e
  | (j, t) :: ts, _, _, n, u, ⟨v, r, o1, o2, h1, h2, h3, h4⟩, e => by
    subst h1
    by_cases c : j = n
    · rw [valT, if_pos c] at e; cases e
      refine ⟨v, o1, o2, by rw [lookup_cons, if_pos c], h2, by rw [h4], fun {G' H' u' o1'} sg k h => ⟨o1' ++ o2, ?_, .refl _⟩⟩
      rw [setT, if_pos c]
      exact ⟨v, r, o1', o2, rfl, h, h3.mono sg _ k, rfl⟩
    · rw [valT, if_neg c] at e
      obtain ⟨w, p1, p2, g1, g2, g3, g4⟩ := RpTf.foc h3 e
      refine ⟨w, p1, o1 ++ p2, by rw [lookup_cons, if_neg c]; exact g1, g2, ?_, fun {G' H' u' o1'} sg k h => ?_⟩
      · rw [h4]; exact (List.Perm.append_left o1 g3).trans (perm_mid _ _ _)
      · obtain ⟨o', f1, f2⟩ := g4 sg (fun a ha => k a (by simp [ha])) h
        rw [setT, if_neg c]
        exact ⟨o1 ++ o', ⟨v, r, o1, o', rfl, h2.mono sg _ (fun a ha => k a (by simp [ha])), f1, rfl⟩, (List.Perm.append_left o1 f2).trans (perm_mid _ _ _)⟩
theorem Rp.unb {t : T} {v : V} {o : List Addr} (h : Rp K G H t v o) : Rp K G H (DL.unb t) v o := by
  cases t with
  | box a t => exact h.2
  | _ => exact h
theorem Rp.reb {G' H' : Hp} {t u : T} {v : V} {o o' : List Addr} (h : Rp K G H t v o) (h' : Rp K G' H' u v o') : Rp K G' H' (DL.reb t u) v o' := by
  cases t with
  | box a t => exact ⟨h.1, h'⟩
  | _ => exact h'
theorem Rp.focS {s : Stp} {t u : T} {v : V} {o : List Addr} (sGH : Same G H) (e : stepT s t = some u) (h : Rp K G H t v o) : ∃ w o1 o2, ChS H s v w ∧ Rp K G H u w o1 ∧ o.Perm (o1 ++ o2) ∧
    ∀ {G' H' : Hp} {u' : T} {o1' : List Addr}, Same G G' → (∀ a ∈ o2, H' a = H a) → Rp K G' H' u' w o1' → ∃ o', Rp K G' H' (setS s t u') v o' ∧ o'.Perm (o1' ++ o2) := by
  unfold stepT at e
  split at e
  · obtain ⟨a, ws, o', h1, h2, h3, h4⟩ := h
    obtain ⟨w, o1, o2, g1, g2, g3, g4⟩ := h3.foc e
    refine ⟨w, o1, a :: o2, ⟨a, ws, h1, h2, g1⟩, g2, ?_, fun {G' H' u' o1'} sg k hh => ?_⟩
    · rw [h4]; exact (List.Perm.cons a g3).trans List.perm_middle.symm
    · obtain ⟨o'', f1, f2⟩ := g4 sg (fun b hb => k b (by simp [hb])) hh
      exact ⟨a :: o'', ⟨a, ws, o'', h1, by rw [k a (by simp)]; exact h2, f1, rfl⟩, (List.Perm.cons a f2).trans List.perm_middle.symm⟩
  · obtain ⟨a, ws, o', h1, h2, h3, h4⟩ := h
    obtain ⟨w, o1, o2, g1, g2, g3, g4⟩ := h3.foc e
    refine ⟨w, o1, a :: o2, ⟨a, ws, h1, h2, g1⟩, g2, ?_, fun {G' H' u' o1'} sg k hh => ?_⟩
    · rw [h4]; exact (List.Perm.cons a g3).trans List.perm_middle.symm
    · obtain ⟨o'', f1, f2⟩ := g4 sg (fun b hb => k b (by simp [hb])) hh
      exact ⟨a :: o'', ⟨a, ws, o'', h1, by rw [k a (by simp)]; exact h2, f1, rfl⟩, (List.Perm.cons a f2).trans List.perm_middle.symm⟩
  · obtain ⟨a, ws, o', h1, h2, h3, h4⟩ := h
    obtain ⟨w, o1, o2, g1, g2, g3, g4⟩ := h3.foc e
    refine ⟨w, o1, a :: o2, ⟨a, ws, h1, h2, g1⟩, g2, ?_, fun {G' H' u' o1'} sg k hh => ?_⟩
    · rw [h4]; exact (List.Perm.cons a g3).trans List.perm_middle.symm
    · obtain ⟨o'', f1, f2⟩ := g4 sg (fun b hb => k b (by simp [hb])) hh
      exact ⟨a :: o'', ⟨a, ws, o'', h1, by rw [k a (by simp)]; exact h2, f1, rfl⟩, (List.Perm.cons a f2).trans List.perm_middle.symm⟩
  · obtain ⟨a, ws, h1, h2, h3⟩ := h
    obtain ⟨w, o1, o2, g1, g2, g3, g4⟩ := h3.foc e
    refine ⟨w, o1, o2, ⟨a, ws, h1, ?_, g1⟩, g2, g3, fun {G' H' u' o1'} sg k hh => ?_⟩
    · exact sGH _ _ h2
    · obtain ⟨o'', f1, f2⟩ := g4 sg k hh
      exact ⟨o'', ⟨a, ws, h1, sg _ _ h2, f1⟩, f2⟩
  · obtain ⟨a, C, dx, ws, o', h1, h0, h2, h3, h4⟩ := h
    obtain ⟨w, o1, o2, g1, g2, g3, g4⟩ := h3.foc e
    refine ⟨w, o1, a :: o2, ⟨a, C, dx, ws, h1, h2, g1⟩, g2, ?_, fun {G' H' u' o1'} sg k hh => ?_⟩
    · rw [h4]; exact (List.Perm.cons a g3).trans List.perm_middle.symm
    · obtain ⟨o'', f1, f2⟩ := g4 sg (fun b hb => k b (by simp [hb])) hh
      exact ⟨a :: o'', ⟨a, C, dx, ws, o'', h1, h0, by rw [k a (by simp)]; exact h2, f1, rfl⟩, (List.Perm.cons a f2).trans List.perm_middle.symm⟩
  · cases e
theorem Rp.foc (sGH : Same G H) : ∀ {P : List Stp} {t u : T} {v : V} {o : List Addr}, getP P t = some u → Rp K G H t v o → ∃ w o1 o2, Ch H P v w ∧ Rp K G H u w o1 ∧ o.Perm (o1 ++ o2) ∧
    ∀ {G' H' : Hp} {u' : T} {o1' : List Addr}, Same G G' → (∀ a ∈ o2, H' a = H a) → Rp K G' H' u' w o1' → ∃ o', Rp K G' H' (setP P t u') v o' ∧ o'.Perm (o1' ++ o2)
  | [], t, u, v, o, e, h => by
    cases e
    exact ⟨v, o, [], rfl, h, by simp, fun {G' H' u' o1'} sg k hh => ⟨o1', hh, by simp⟩⟩
  | s :: P, t, u, v, o, e, h => by
    obtain ⟨c, e1, e2⟩ := obind (show (stepT s (DL.unb t)).bind (getP P) = some u from e)
    obtain ⟨x, o1, o2, g1, g2, g3, g4⟩ := h.unb.focS sGH e1
    obtain ⟨w, p1, p2, f1, f2, f3, f4⟩ := Rp.foc sGH e2 g2
    refine ⟨w, p1, p2 ++ o2, ⟨x, g1, f1⟩, f2, ?_, fun {G' H' u' o1'} sg k hh => ?_⟩
    · rw [← List.append_assoc]; exact g3.trans (List.Perm.append_right _ f3)
    · obtain ⟨o', q1, q2⟩ := f4 sg (fun b hb => k b (by simp [hb])) hh
      obtain ⟨o'', q3, q4⟩ := g4 sg (fun b hb => k b (by simp [hb])) q1
      refine ⟨o'', ?_, ?_⟩
      · show Rp K G' H' (match stepT s (DL.unb t) with | some c => DL.reb t (setS s (DL.unb t) (setP P c u')) | none => t) v o''
        rw [e1]
        exact h.reb q3
      · rw [← List.append_assoc]; exact q4.trans (List.Perm.append_right _ q2)
theorem OkS.wr {G0 H0 : Hp} {W : List (T × V)} {ts es : List T} {vs ws : List V} {env : Env} {σ : St} {i : Nat} {P : List Stp} {t u : T} {v w : V} (S : OkS K G0 H0 W H (es ++ ts) (ws ++ vs) env σ) (hw : ws.length = es.length) (he : env[i]? = some (some t)) (hp : getP P t = some u)
    (hv : σ[i]? = some (some v)) (hc : Ch H P v w) : ∃ (G : Hp) (o1 o2 : List Addr), Rp K G H u w o1 ∧ RpTs K G H es ws o2 ∧ (o1 ++ o2).Nodup ∧ Same G H ∧ (∀ b ∈ o1 ++ o2, G b = none ∧ H0 b = none) ∧
    ∀ (a : Addr) (cell : HO) (u' : T) (es' : List T) (ws' : List V) (o3 o4 rest : List Addr), a ∈ o1 → Rp K G (upd H a cell) u' w o3 → RpTs K G (upd H a cell) es' ws' o4 → (o1 ++ o2).Perm (o3 ++ o4 ++ rest) → OkS K G0 H0 [] (upd H a cell) (es' ++ ts) (ws' ++ vs) (env.set i (some (setP P t u'))) σ := by
  obtain ⟨G, ot, oe, s⟩ := S
  obtain ⟨o2, o5, k1, k2, k3⟩ := s.tmp.split hw
  obtain ⟨v', oA, oB, e1, e2, e3, e4⟩ := s.env.take he
  rw [hv] at e1
  cases e1
  obtain ⟨w', o1, o6, f1, f2, f3, f4⟩ := e2.foc s.gh hp
  have := f1.det hc
  subst this
  have pm : (ot ++ oe).Perm ((o1 ++ o2) ++ (o6 ++ (o5 ++ oB))) := by
    rw [k3]
    have q1 : ((o2 ++ o5) ++ oe).Perm ((o2 ++ o5) ++ ((o1 ++ o6) ++ oB)) := List.Perm.append_left _ (e4.trans (List.Perm.append_right _ f3))
    refine q1.trans ?_
    have q2 : ((o2 ++ o5) ++ ((o1 ++ o6) ++ oB)).Perm (o1 ++ ((o2 ++ o5) ++ (o6 ++ oB))) := by
      rw [List.append_assoc o1]
      exact perm_mid _ _ _
    refine q2.trans ?_
    rw [List.append_assoc o1, List.append_assoc o2]
    exact List.Perm.append_left _ (List.Perm.append_left _ (perm_mid _ _ _))
  have nd := pm.nodup_iff.mp s.nd
  have fr : ∀ b ∈ (o1 ++ o2) ++ (o6 ++ (o5 ++ oB)), G b = none ∧ H0 b = none := fun b hb => s.fr b (pm.mem_iff.mpr hb)
  refine ⟨G, o1, o2, f2, k1, (List.nodup_append.mp nd).1, s.gh, fun b hb => fr b (List.mem_append_left _ hb), fun a cell u' es' ws' o3 o4 rest ha r1 r2 pm2 => ?_⟩
  have ha' : a ∈ o1 ++ o2 := List.mem_append_left _ ha
  have nea : ∀ b ∈ o6 ++ (o5 ++ oB), b ≠ a := fun b hb e => (List.nodup_append.mp nd).2.2 a ha' b hb e.symm
  have kp : ∀ b ∈ o6 ++ (o5 ++ oB), upd H a cell b = H b := fun b hb => upd_ne (nea b hb)
  obtain ⟨o7, q1, q2⟩ := f4 (Same.refl G) (fun b hb => kp b (by simp [hb])) r1
  have e3' := e3.mono (Same.refl G) _ (fun b hb => kp b (by simp [hb]))
  have hl : i < env.length := (List.getElem?_eq_some_iff.mp he).1
  obtain ⟨o8, g1, g2⟩ := e3'.put (i := i) (by simpa using hl) (fun x z => by rw [List.getElem?_set_self hl] at z; cases z) q1
  rw [List.set_set, set_back hv] at g1
  have t2 := k2.mono (Same.refl G) _ (fun b hb => kp b (by simp [hb]))
  have pm3 : ((o1 ++ o2) ++ (o6 ++ (o5 ++ oB))).Perm (((o4 ++ o5) ++ o8) ++ rest) := by
    refine (List.Perm.append_right _ pm2).trans ?_
    have a1 : o8.Perm (o3 ++ (o6 ++ oB)) := g2.trans (by rw [← List.append_assoc]; exact List.Perm.append_right _ q2)
    have a2 : (((o4 ++ o5) ++ o8) ++ rest).Perm (((o4 ++ o5) ++ (o3 ++ (o6 ++ oB))) ++ rest) := List.Perm.append_right _ (List.Perm.append_left _ a1)
    refine List.Perm.trans ?_ a2.symm
    have cnt : ∀ x, List.count x (o3 ++ o4 ++ rest ++ (o6 ++ (o5 ++ oB))) = List.count x (o4 ++ o5 ++ (o3 ++ (o6 ++ oB)) ++ rest) := fun x => by
      simp only [List.count_append]; omega
    exact List.perm_iff_count.mpr cnt
  have nd2 := pm3.nodup_iff.mp nd
  have sub : ∀ b ∈ (o4 ++ o5) ++ o8, b ∈ (o1 ++ o2) ++ (o6 ++ (o5 ++ oB)) := fun b hb => pm3.mem_iff.mpr (List.mem_append_left _ hb)
  refine ⟨G, o4 ++ o5, o8, r2.append t2, g1, (List.nodup_append.mp nd2).1, fun b hb => fr b (sub b hb), s.g0, fun b x e => ?_, fun b x e => ?_, s.nw, fun q hq => by cases hq⟩
  · have : b ≠ a := fun z => by subst z; rw [(fr b (List.mem_append_left _ ha')).1] at e; cases e
    rw [upd_ne this]; exact s.gh b x e
  · have : b ≠ a := fun z => by subst z; rw [(fr b (List.mem_append_left _ ha')).2] at e; cases e
    rw [upd_ne this]; exact s.h0 b x e
theorem OkS.at' {G0 H0 : Hp} {W : List (T × V)} {ts : List T} {vs : List V} {env : Env} {σ : St} {i : Nat} {P : List Stp} {t u : T} {v w : V} (S : OkS K G0 H0 W H ts vs env σ) (he : env[i]? = some (some t)) (hp : getP P t = some u)
    (hv : σ[i]? = some (some v)) (hc : Ch H P v w) : ∃ (G : Hp) (o1 : List Addr), Rp K G H u w o1 ∧ Same G H := by
  obtain ⟨G, o1, o2, h1, _, _, h2, _⟩ := OkS.wr (es := []) (ws := []) S rfl he hp hv hc
  exact ⟨G, o1, h1, h2⟩
end
abbrev PF := Env → Option (List Stp × Env)
def EvP (K : KW) (te : TE) (i : Nat) (f : PF) : Prop := ∀ (G0 H0 : Hp) (W : List (T × V)) (H : Hp) (ts : List T) (vs : List V) (env : Env) (σ : St) (P : List Stp) (env' : Env), OkS K G0 H0 W H ts vs env σ → f env = some (P, env') →
  ∀ Q : VK, (∀ v w H', Same H H' → OkS K G0 H0 W H' ts vs env' σ → σ[i]? = some (some v) → Ch H' P v w → Q w H') → te σ H Q
structure DP (X : Cx) (e : Expr) (te : TE) (i : Nat) (f : PF) : Prop where
  pe : PE X e te
  ok : EvP X.kw te i f
def atP (env : Env) (i : Nat) (P : List Stp) : Option T := match env[i]? with
  | some (some t) => getP P t
  | _ => none
theorem atP_eq {env : Env} {i : Nat} {P : List Stp} {u : T} (h : atP env i P = some u) : ∃ t, env[i]? = some (some t) ∧ getP P t = some u := by
  unfold atP at h
  split at h
  · rename_i t e; exact ⟨t, e, h⟩
  · cases h
def putP (env : Env) (i : Nat) (P : List Stp) (u : T) : Env := match env[i]? with
  | some (some t) => env.set i (some (setP P t u))
  | _ => env
theorem putP_eq {env : Env} {i : Nat} {P : List Stp} {t u : T} (h : env[i]? = some (some t)) : putP env i P u = env.set i (some (setP P t u)) := by
  unfold putP; rw [h]
def pNm (i : Nat) : PF := fun env => match env[i]? with
  | some (some _) => some ([], env)
  | _ => none
section
variable {X : Cx} {e o k : Expr} {te to tk : TE} {f fk : EF} {fo : PF} {i : Nat} {pos : Pos}
theorem dp_name (i : Nat) {x : Str} (hN : X.N[i]? = some x := by rfl) (hv : Vis X.env.scope x := by first | exact Or.inl rfl | exact Or.inr (Or.inl rfl) | exact Or.inr (Or.inr rfl)) (hd : (x == ("__debug__" : Str)) = false := by decide)
    (hcd : (x == ("__classdict__" : Str)) = false := by decide) : DP X (.Name x pos) (tVar i) i (pNm i) := by
  refine ⟨pe_var hN hv hd hcd, ?_⟩
  intro G0 H0 W H ts vs env σ P env' S g Q q
  unfold pNm at g
  split at g
  · rename_i t e
    cases g
    obtain ⟨v, hv1, S1⟩ := S.look e
    exact ⟨v, hv1, q v v H (Same.refl _) S hv1 rfl⟩
  · cases g
def Att (K : PySem.W.Frag) (n f : Str) : Prop := ∀ C, ClsN K n C → Cls K C ∧ NoAttr K C f
def pKey (i : Nat) (fo : PF) (fk : EF) : PF := fun env => (fo env).bind fun r => (fk r.2).bind fun s => (keyT s.1).bind fun k => (atP s.2 i r.1).bind fun t => match unb t with
  | .dic kvs => (valT kvs k).map fun _ => (r.1 ++ [.key k], s.2)
  | _ => none
theorem dp_key (hu : X.A.units + 1 < cLine) (h : DP X o to i fo) (hk : DT X k tk fk) (hs : NoSl k := by exact fun _ _ => rfl) : DP X (.Subscript o k pos) (tDGet to tk) i (pKey i fo fk) := by
  refine ⟨pe_dget hu h.pe hk.pe hs, ?_⟩
  intro G0 H0 W H ts vs env σ P env' S g Q q
  obtain ⟨⟨P1, e1⟩, g1, g2⟩ := obind g
  obtain ⟨⟨z, e2⟩, g3, g4⟩ := obind g2
  obtain ⟨kk, g5, g6⟩ := obind g4
  obtain ⟨t, g7, g8⟩ := obind g6
  obtain ⟨t0, g9, g10⟩ := atP_eq g7
  dsimp only at g8
  split at g8
  · rename_i kvs hun
    obtain ⟨u, g11, g12⟩ := omap g8
    cases g12
    cases z with
    | p kd =>
      refine h.ok _ _ _ _ _ _ _ _ _ _ S g1 _ fun v w H1 s1 S1 hv hc => ?_
      refine hk.ok _ _ _ _ _ _ _ _ _ _ S1 g3 _ fun y H2 s2 S2 => ?_
      have ey : y = L2.kV kk := keyD_rp (show keyD kd = some kk from g5) S2.top
      have hc2 := hc.same s2
      obtain ⟨G, o1, r, sG⟩ := S2.pop.at' g9 g10 hv hc2
      have r := r.unb
      rw [hun] at r
      obtain ⟨a, ws, o', h1, h2, h3, h4⟩ := r
      obtain ⟨x, p1, p2, k1, _⟩ := h3.foc g11
      exact ⟨a, x, h1, by rw [ey, ← k1]; exact DGet.k h2, q v x H2 (s1.trans s2) S2.pop hv (hc2.app ⟨a, ws, h1, h2, k1⟩)⟩
    | _ => cases g5
  · cases g8
def pIx (i : Nat) (fo : PF) (fk : EF) : PF := fun env => (fo env).bind fun r => (fk r.2).bind fun s => match s.1 with
  | .p (.int z) => (atP s.2 i r.1).bind fun t => match unb t with
    | .lst ts => (ixN ts.length z).bind fun j => (ts[j]?).map fun _ => (r.1 ++ [.ix j], s.2)
    | .tup ts => (ixN ts.length z).bind fun j => (ts[j]?).map fun _ => (r.1 ++ [.it j], s.2)
    | _ => none
  | _ => none
theorem dp_ix (h : DP X o to i fo) (hk : DT X k tk fk) (hs : PlainIx k := by exact fun _ _ => rfl) : DP X (.Subscript o k pos) (tOp (rIx X.K) to tk) i (pIx i fo fk) := by
  refine ⟨pe_ix ix_seq h.pe hk.pe hs, ?_⟩
  intro G0 H0 W H ts vs env σ P env' S g Q q
  obtain ⟨⟨P1, e1⟩, g1, g2⟩ := obind g
  obtain ⟨⟨z, e2⟩, g3, g4⟩ := obind g2
  dsimp only at g4
  split at g4
  · rename_i zi
    obtain ⟨t, g7, g8⟩ := obind g4
    obtain ⟨t0, g9, g10⟩ := atP_eq g7
    refine h.ok _ _ _ _ _ _ _ _ _ _ S g1 _ fun v w H1 s1 S1 hv hc => ?_
    refine hk.ok _ _ _ _ _ _ _ _ _ _ S1 g3 _ fun y H2 s2 S2 => ?_
    have ey : y = .int zi := S2.top
    subst ey
    have hc2 := hc.same s2
    obtain ⟨G, o1, r, sG⟩ := S2.pop.at' g9 g10 hv hc2
    have r := r.unb
    split at g8
    · rename_i us hun
      rw [hun] at r
      obtain ⟨j, k1, k2⟩ := obind g8
      obtain ⟨u, k3, k4⟩ := omap k2
      cases k4
      obtain ⟨a, xs, o', h1, h2, h3, h4⟩ := r
      obtain ⟨x, p1, p2, f1, _⟩ := h3.foc k3
      exact .inl ⟨a, xs, zi, x, h1, rfl, .inl (.inl h2), atI_of k1 h3.len f1, q v x H2 (s1.trans s2) S2.pop hv (hc2.app ⟨a, xs, h1, h2, f1⟩)⟩
    · rename_i us hun
      rw [hun] at r
      obtain ⟨j, k1, k2⟩ := obind g8
      obtain ⟨u, k3, k4⟩ := omap k2
      cases k4
      obtain ⟨a, xs, h1, h2, h3⟩ := r
      obtain ⟨x, p1, p2, f1, _⟩ := h3.foc k3
      exact .inr (.inl ⟨a, xs, zi, x, h1, rfl, tup_seq sG h2, atI_of k1 h3.len f1, q v x H2 (s1.trans s2) S2.pop hv (hc2.app ⟨a, xs, h1, sG _ _ h2, f1⟩)⟩)
    · cases g8
  · cases g4
end
end DL
namespace DL
open PySem PySem.Spec PyProof.Rows L2
section
variable {K : KW} {G0 H0 H : Hp} {W : List (T × V)} {ts : List T} {vs : List V} {env : Env} {σ : St}
theorem OkS.viewIn {t u : T} {v w : V} (S : OkS K G0 H0 W H ts vs env σ) (hq : (t, v) ∈ W) (h : ∀ (G : Hp) (o : List Addr), Same G H → Rp K G H t v o → ∃ o', Rp K G H u w o') : OkS K G0 H0 ((u, w) :: W) H ts vs env σ := by
  obtain ⟨G, ot, oe, s⟩ := S
  obtain ⟨o, r⟩ := s.vw _ hq
  obtain ⟨o', r'⟩ := h G o s.gh r
  exact ⟨G, ot, oe, s.tmp, s.env, s.nd, s.fr, s.g0, s.gh, s.h0, s.nw, fun q hq => by
    rcases List.mem_cons.mp hq with e | hq
    · subst e; exact ⟨o', r'⟩
    · exact s.vw q hq⟩
end
theorem RpKf.foc {K : KW} {G : Hp} : ∀ {fs : List (Str × D)} {ws : List (Str × V)} {f : Str} {kv : Str × D}, RpKf K G fs ws → (fs.find? fun kv => decide (kv.1 = f)) = some kv → ∃ w, ws.lookup f = some w ∧ RpD K G kv.2 w
  | [], _, _, _, _, e => by simp at e
  | (j, d) :: fs, _, f, kv, ⟨v, r, h1, h2, h3⟩, e => by
    subst h1
    by_cases c : j = f
    · rw [List.find?_cons_of_pos (by simpa using c)] at e
      cases e
      exact ⟨v, by rw [lookup_cons, if_pos c], h2⟩
    · rw [List.find?_cons_of_neg (by simpa using c)] at e
      obtain ⟨w, g1, g2⟩ := RpKf.foc h3 e
      exact ⟨w, by rw [lookup_cons, if_neg c]; exact g1, g2⟩
section
variable {X : Cx} {e o k : Expr} {te to tk : TE} {f fk fo : EF} {i : Nat} {pos apos cpos : Pos}
def valK (k : Key) : T → Option T
  | .dic kvs => valT kvs k
  | .p (.dic kvs) => (valD kvs k).map T.p
  | _ => none
def eDk (fo fk : EF) : EF := fun env => (fo env).bind fun r => (fk r.2).bind fun s => (keyT s.1).bind fun k => (valK k (unb r.1)).map fun u => (u, s.2)
theorem dv_dk (hu : X.A.units + 1 < cLine) (h : DV X o to fo) (hk : DT X k tk fk) (hs : NoSl k := by exact fun _ _ => rfl) : DV X (.Subscript o k pos) (tDGet to tk) (eDk fo fk) := by
  refine ⟨pe_dget hu h.pe hk.pe hs, ?_⟩
  intro G0 H0 W H ts vs env σ t env' S g Q q
  obtain ⟨⟨y, e1⟩, g1, g2⟩ := obind g
  obtain ⟨⟨z, e2⟩, g3, g4⟩ := obind g2
  obtain ⟨kk, g5, g6⟩ := obind g4
  obtain ⟨u, g7, g8⟩ := omap g6
  cases g8
  cases z with
  | p kd =>
    refine h.ok _ _ _ _ _ _ _ _ _ _ S g1 _ fun v H1 s1 S1 => ?_
    refine hk.ok _ _ _ _ _ _ _ _ _ _ S1 g3 _ fun w2 H2 s2 S2 => ?_
    have ew : w2 = L2.kV kk := keyD_rp (show keyD kd = some kk from g5) S2.top
    have S3 := S2.pop
    have main : ∃ (ad : Addr) (ws : List (Key × V)) (w : V), v = .ref ad ∧ Rd H2 ad (.dK ws) ∧ valV ws kk = some w ∧ ∀ (G : Hp) (o : List Addr), Same G H2 → Rp X.kw G H2 y v o → ∃ o', Rp X.kw G H2 t w o' := by
      obtain ⟨G, ot, oe, s⟩ := S3
      obtain ⟨oo, r⟩ : ∃ o, Rp X.kw G H2 y v o := s.vw (y, v) (by simp)
      have r := r.unb
      have gv : valK kk (unb y) = some t := g7
      clear g7
      unfold valK at gv
      split at gv
      · rename_i kvs hy
        have hy : unb y = .dic kvs := hy
        rw [hy] at r
        obtain ⟨ad, ws, o', h1, h2, h3, h4⟩ := r
        obtain ⟨w, p1, p2, k1, k2, _⟩ := h3.foc gv
        refine ⟨ad, ws, w, h1, .inl h2, k1, fun G' o2 sg r' => ?_⟩
        have r' := r'.unb
        rw [hy] at r'
        obtain ⟨ad', ws', o'', h1', h2', h3', h4'⟩ := r'
        rw [h1] at h1'; cases h1'
        rw [h2] at h2'; cases h2'
        obtain ⟨w', p1', p2', k1', k2', _⟩ := h3'.foc gv
        rw [k1] at k1'; cases k1'
        exact ⟨_, k2'⟩
      · rename_i kvs hy
        have hy : unb y = .p (.dic kvs) := hy
        obtain ⟨d, g9, g10⟩ := omap gv
        subst g10
        rw [hy] at r
        obtain ⟨⟨ad, ws, h1, h2, h3⟩, _⟩ := r
        obtain ⟨w, k1, k2⟩ := (h3.val kk).2 d g9
        refine ⟨ad, ws, w, h1, Same.rd s.gh h2, k1, fun G' o2 sg r' => ?_⟩
        have r' := r'.unb
        rw [hy] at r'
        obtain ⟨⟨ad', ws', h1', h2', h3'⟩, _⟩ := r'
        rw [h1] at h1'; cases h1'
        have q3 : ws = ws' := by
          rcases Same.rd s.gh h2 with q1 | ⟨oo, q1⟩ <;> rcases Same.rd sg h2' with q2 | ⟨oo', q2⟩ <;> (rw [q1] at q2; first | (cases q2; done) | (cases q2; rfl))
        subst q3
        obtain ⟨w', k1', k2'⟩ := (h3'.val kk).2 d g9
        rw [k1] at k1'; cases k1'
        exact ⟨[], k2', rfl⟩
      · cases gv
    obtain ⟨ad, ws, w, h1, h2, h3, h4⟩ := main
    refine ⟨ad, w, h1, by rw [ew, ← h3]; exact .inl ⟨_, _, h2, rfl, rfl⟩, q w H2 (s1.trans s2) ?_⟩
    have S4 := S3.viewIn (t := y) (v := v) (by simp) h4
    exact S4.views fun q hq => by
      rcases List.mem_cons.mp hq with e | hq
      · rw [e]; simp
      · exact List.mem_cons_of_mem _ (List.mem_cons_of_mem _ hq)
  | _ => cases g5
end
end DL
namespace DL
open PySem PySem.Spec PyProof.Rows L2
def putT {κ : Type} [DecidableEq κ] (kvs : List (κ × T)) (k : κ) (t : T) : List (κ × T) := if (kvs.any fun kv => decide (kv.1 = k)) = true then kvs.map (fun kv => if kv.1 = k then (kv.1, t) else kv) else kvs ++ [(k, t)]
def cntT {κ : Type} [DecidableEq κ] (kvs : List (κ × T)) (k : κ) : Nat := (kvs.filter fun kv => decide (kv.1 = k)).length
def isP : T → Bool
  | .p _ => true
  | _ => false
def okPut {κ : Type} [DecidableEq κ] (kvs : List (κ × T)) (k : κ) (t : T) : Bool := isP t || decide (cntT kvs k ≤ 1)
def dropT {κ : Type} [DecidableEq κ] (kvs : List (κ × T)) (k : κ) : List (κ × T) := kvs.filter fun kv => decide (kv.1 ≠ k)
def putFT (fs : List (Str × T)) (f : Str) (t : T) : List (Str × T) := match fs with
  | [] => [(f, t)]
  | (g, x) :: r => if g = f then (g, t) :: r else (g, x) :: putFT r f t
section
variable {K : KW} {G H : Hp}
theorem RpTk.any (k : Key) : ∀ {kvs : List (Key × T)} {xs : List (Key × V)} {o : List Addr}, RpTk K G H kvs xs o → (xs.any fun kv => decide (kv.1 = k)) = kvs.any fun kv => decide (kv.1 = k)
  | [], _, _, h => by rw [h.1]; rfl
  | (j, d) :: r, _, _, ⟨v, r', o1, o2, h1, h2, h3, h4⟩ => by rw [h1, List.any_cons, List.any_cons, RpTk.any k h3]
theorem RpTk.len : ∀ {kvs : List (Key × T)} {xs : List (Key × V)} {o : List Addr}, RpTk K G H kvs xs o → xs.length = kvs.length
  | [], _, _, h => by rw [h.1]; rfl
  | (j, d) :: r, _, _, ⟨v, r', o1, o2, h1, h2, h3, h4⟩ => by rw [h1, List.length_cons, List.length_cons, RpTk.len h3]
theorem RpTk.noKey {k : Key} (f : Key × T → Key × T) (g : Key × V → Key × V) (hf : ∀ kv, kv.1 ≠ k → f kv = kv) (hg : ∀ kv, kv.1 ≠ k → g kv = kv) : ∀ {kvs : List (Key × T)} {xs : List (Key × V)} {o : List Addr}, RpTk K G H kvs xs o → cntT kvs k = 0 → RpTk K G H (kvs.map f) (xs.map g) o
  | [], _, _, h, _ => by rw [h.1, h.2]; exact ⟨rfl, rfl⟩
  | (j, d) :: r, _, _, ⟨v, r', o1, o2, h1, h2, h3, h4⟩, hc => by
    subst h1
    have hj : j ≠ k := fun e => by simp [cntT, e] at hc
    have hc' : cntT r k = 0 := by simpa [cntT, hj] using hc
    rw [List.map_cons, List.map_cons, hf (j, d) hj, hg (j, v) hj]
    exact ⟨v, _, o1, o2, rfl, h2, RpTk.noKey f g hf hg h3 hc', h4⟩
theorem RpTk.put {k : Key} {t : T} {v : V} {o' : List Addr} (ht : Rp K G H t v o') : ∀ {kvs : List (Key × T)} {xs : List (Key × V)} {o : List Addr}, RpTk K G H kvs xs o → okPut kvs k t = true → ∃ o3 rest, RpTk K G H (putT kvs k t) (putK xs k v) o3 ∧ (o ++ o').Perm (o3 ++ rest) := by
  intro kvs xs o h hok
  unfold putT putK
  rw [h.any k]
  by_cases ha : (kvs.any fun kv => decide (kv.1 = k)) = true
  · rw [if_pos ha, if_pos ha]
    unfold okPut at hok
    rw [Bool.or_eq_true] at hok
    rcases hok with hp | hc
    · -- a pure thing
      cases t with
      | p d =>
        have eo : o' = [] := ht.2
        subst eo
        clear ha
        induction kvs generalizing xs o with
        | nil => exact ⟨[], [], by rw [h.1]; exact ⟨rfl, rfl⟩, by rw [h.2]⟩
        | cons kv r ih =>
          obtain ⟨j, x⟩ := kv
          obtain ⟨w, r', o1, o2, h1, h2, h3, h4⟩ := h
          subst h1
          obtain ⟨o3, rest, q1, q2⟩ := ih h3
          rw [List.append_nil] at q2
          by_cases c : j = k
          · refine ⟨o3, o1 ++ rest, ?_, ?_⟩
            · rw [List.map_cons, List.map_cons, if_pos c, if_pos c]
              exact ⟨v, _, [], o3, rfl, ht, q1, rfl⟩
            · rw [h4, List.append_nil]
              exact (List.Perm.append_left o1 q2).trans (perm_mid _ _ _)
          · refine ⟨o1 ++ o3, rest, ?_, ?_⟩
            · rw [List.map_cons, List.map_cons, if_neg c, if_neg c]
              exact ⟨w, _, o1, o3, rfl, h2, q1, rfl⟩
            · rw [h4, List.append_nil, List.append_assoc]
              exact List.Perm.append_left o1 q2
      | _ => cases hp
    · replace hc := of_decide_eq_true hc
      clear ha
      induction kvs generalizing xs o with
      | nil => exact ⟨[], o', by rw [h.1]; exact ⟨rfl, rfl⟩, by rw [h.2]⟩
      | cons kv r ih =>
        obtain ⟨j, x⟩ := kv
        obtain ⟨w, r', o1, o2, h1, h2, h3, h4⟩ := h
        subst h1
        by_cases c : j = k
        · have hc0 : cntT r k = 0 := by simp [cntT, c] at hc ⊢; exact hc
          have q := RpTk.noKey (k := k) (fun kv => if kv.1 = k then (kv.1, t) else kv) (fun kv => if kv.1 = k then (kv.1, v) else kv) (fun kv e => if_neg e) (fun kv e => if_neg e) h3 hc0
          refine ⟨o' ++ o2, o1, ?_, ?_⟩
          · rw [List.map_cons, List.map_cons, if_pos c, if_pos c]
            exact ⟨v, _, o', o2, rfl, ht, q, rfl⟩
          · rw [h4]
            have cnt : ∀ x, List.count x (o1 ++ o2 ++ o') = List.count x (o' ++ o2 ++ o1) := fun x => by simp only [List.count_append]; omega
            exact List.perm_iff_count.mpr cnt
        · have hc0 : cntT r k ≤ 1 := by simpa [cntT, c] using hc
          obtain ⟨o3, rest, q1, q2⟩ := ih h3 hc0
          refine ⟨o1 ++ o3, rest, ?_, ?_⟩
          · rw [List.map_cons, List.map_cons, if_neg c, if_neg c]
            exact ⟨w, _, o1, o3, rfl, h2, q1, rfl⟩
          · rw [h4, List.append_assoc, List.append_assoc]
            exact List.Perm.append_left o1 q2
  · rw [if_neg ha, if_neg ha]
    refine ⟨o ++ o', [], ?_, by simp⟩
    clear hok ha
    induction kvs generalizing xs o with
    | nil => rw [h.1, h.2]; exact ⟨v, [], o', [], rfl, ht, ⟨rfl, rfl⟩, by simp⟩
    | cons kv r ih =>
      obtain ⟨j, x⟩ := kv
      obtain ⟨w, r', o1, o2, h1, h2, h3, h4⟩ := h
      subst h1; subst h4
      rw [List.append_assoc]
      exact ⟨w, _, o1, o2 ++ o', rfl, h2, ih h3, rfl⟩
theorem RpTk.drop (k : Key) : ∀ {kvs : List (Key × T)} {xs : List (Key × V)} {o : List Addr}, RpTk K G H kvs xs o → ∃ o3 rest, RpTk K G H (dropT kvs k) (dropK xs k) o3 ∧ o.Perm (o3 ++ rest)
  | [], _, _, h => ⟨[], [], by rw [h.1]; exact ⟨rfl, rfl⟩, by rw [h.2]; simp⟩
  | (j, t) :: r, _, _, ⟨w, r', o1, o2, h1, h2, h3, h4⟩ => by
    subst h1
    obtain ⟨o3, rest, q1, q2⟩ := RpTk.drop k h3
    unfold dropT dropK at q1 ⊢
    by_cases c : j = k
    · refine ⟨o3, o1 ++ rest, ?_, ?_⟩
      · rw [List.filter_cons_of_neg (by simpa using c), List.filter_cons_of_neg (by simpa using c)]; exact q1
      · rw [h4]; exact (List.Perm.append_left o1 q2).trans (perm_mid _ _ _)
    · refine ⟨o1 ++ o3, rest, ?_, ?_⟩
      · rw [List.filter_cons_of_pos (by simpa using c), List.filter_cons_of_pos (by simpa using c)]
        exact ⟨w, _, o1, o3, rfl, h2, q1, rfl⟩
      · rw [h4, List.append_assoc]; exact List.Perm.append_left o1 q2
theorem RpTk.take (k : Key) : ∀ {kvs : List (Key × T)} {xs : List (Key × V)} {o : List Addr} {t : T}, RpTk K G H kvs xs o → valT kvs k = some t → ∃ w o3 o4 rest, valV xs k = some w ∧ Rp K G H t w o4 ∧ RpTk K G H (dropT kvs k) (dropK xs k) o3 ∧ o.Perm (o3 ++ o4 ++ rest)
  | [], _, _, _, _, e => by simp [valT] at e
  | (j, t) :: r, _, _, u, ⟨w, r', o1, o2, h1, h2, h3, h4⟩, e => by
    subst h1
    by_cases c : j = k
    · rw [valT, if_pos c] at e; cases e
      obtain ⟨o3, rest, q1, q2⟩ := RpTk.drop k h3
      refine ⟨w, o3, o1, rest, valV_pos (by exact c), h2, ?_, ?_⟩
      · unfold dropT dropK at q1 ⊢
        rw [List.filter_cons_of_neg (by simpa using c), List.filter_cons_of_neg (by simpa using c)]; exact q1
      · rw [h4]
        refine (List.Perm.append_left o1 q2).trans ?_
        rw [← List.append_assoc]
        exact List.Perm.append_right _ List.perm_append_comm
    · rw [valT, if_neg c] at e
      obtain ⟨w', o3, o4, rest, f1, f2, f3, f4⟩ := RpTk.take k h3 e
      refine ⟨w', o1 ++ o3, o4, rest, (valV_neg (by exact c)).trans f1, f2, ?_, ?_⟩
      · unfold dropT dropK at f3 ⊢
        rw [List.filter_cons_of_pos (by simpa using c), List.filter_cons_of_pos (by simpa using c)]
        exact ⟨w, _, o1, o3, rfl, h2, f3, rfl⟩
      · rw [h4, List.append_assoc, List.append_assoc]
        exact List.Perm.append_left o1 (by rw [List.append_assoc] at f4; exact f4)
theorem RpTk.noVal (k : Key) : ∀ {kvs : List (Key × T)} {xs : List (Key × V)} {o : List Addr}, RpTk K G H kvs xs o → valT kvs k = none → valV xs k = none
  | [], _, _, h, _ => by rw [h.1]; rfl
  | (j, t) :: r, _, _, ⟨w, r', o1, o2, h1, h2, h3, h4⟩, e => by
    subst h1
    by_cases c : j = k
    · rw [valT, if_pos c] at e; cases e
    · rw [valT, if_neg c] at e
      exact (valV_neg (by exact c)).trans (RpTk.noVal k h3 e)
theorem RpTf.put {f : Str} {t : T} {v : V} {o' : List Addr} (ht : Rp K G H t v o') : ∀ {fs : List (Str × T)} {xs : List (Str × V)} {o : List Addr}, RpTf K G H fs xs o → ∃ o3 rest, RpTf K G H (putFT fs f t) (putF f v xs) o3 ∧ (o ++ o').Perm (o3 ++ rest)
  | [], _, _, h => ⟨o', [], by rw [h.1]; exact ⟨v, [], o', [], rfl, ht, ⟨rfl, rfl⟩, by simp⟩, by rw [h.2]; simp⟩
  | (j, x) :: r, _, _, ⟨w, r', o1, o2, h1, h2, h3, h4⟩ => by
    subst h1
    by_cases c : j = f
    · refine ⟨o' ++ o2, o1, ?_, ?_⟩
      · rw [putFT, putF, if_pos c, if_pos c]
        exact ⟨v, _, o', o2, rfl, ht, h3, rfl⟩
      · rw [h4]
        exact List.perm_iff_count.mpr fun x => by simp only [List.count_append]; omega
    · obtain ⟨o3, rest, q1, q2⟩ := RpTf.put ht h3
      refine ⟨o1 ++ o3, rest, ?_, ?_⟩
      · rw [putFT, putF, if_neg c, if_neg c]
        exact ⟨w, _, o1, o3, rfl, h2, q1, rfl⟩
      · rw [h4, List.append_assoc, List.append_assoc]
        exact List.Perm.append_left o1 q2
theorem RpTf.len : ∀ {kvs : List (Str × T)} {xs : List (Str × V)} {o : List Addr}, RpTf K G H kvs xs o → xs.length = kvs.length
  | [], _, _, h => by rw [h.1]; rfl
  | (j, d) :: r, _, _, ⟨v, r', o1, o2, h1, h2, h3, h4⟩ => by rw [h1, List.length_cons, List.length_cons, RpTf.len h3]
theorem RpTf.noVal (k : Str) : ∀ {kvs : List (Str × T)} {xs : List (Str × V)} {o : List Addr}, RpTf K G H kvs xs o → valT kvs k = none → xs.lookup k = none
  | [], _, _, h, _ => by rw [h.1]; rfl
  | (j, t) :: r, _, _, ⟨w, r', o1, o2, h1, h2, h3, h4⟩, e => by
    subst h1
    by_cases c : j = k
    · rw [valT, if_pos c] at e; cases e
    · rw [valT, if_neg c] at e
      rw [lookup_cons, if_neg c]
      exact RpTf.noVal k h3 e
end
theorem wN {H : Hp} {a : Addr} {cell : HO} {o : List Addr} (h : a ∉ o) : ∀ b ∈ o, upd H a cell b = H b := fun b hb => upd_ne (fun e => h (e ▸ hb))
section
variable {X : Cx} {e o k : Expr} {te to tk : TE} {f fk : EF} {fo : PF} {i : Nat} {pos cpos apos ipos tpos : Pos}
def sAppP (i : Nat) (fo : PF) (f : EF) : SF := fun env => (fo env).bind fun r => (atP r.2 i r.1).bind fun t0 => match unb t0 with
  | .lst _ => (f r.2).bind fun s => (atP s.2 i r.1).bind fun t => match unb t with
    | .lst us => if us.length < 16000000 then some (.nx, putP s.2 i r.1 (reb t (.lst (us ++ [s.1])))) else none
    | _ => none
  | _ => none
theorem ds_appP (ho : DP X o to i fo) (h : DT X e te f) (hb : attributeBase o "append" X.env (eval o X.env) = eval o X.env := by rfl)
    (hse : starEach [e] X.env = (false, eval e X.env) :: starEach [] X.env := by rfl)
    (hfew : ((backTo cpos (starEach [e] X.env)).all (fun x => !x.1) && (backToKw cpos (keywordEach [] X.env)).all (fun x => x.1.isSome)
      && decide ([e].length + ([] : List Keyword).length + (if ([] : List Keyword).isEmpty then 0 else 1) < 30)) = true := by rfl)
    (hline : (apos.endLine == cpos.line) = true := by rfl)
    (hs : swapsWith (.Call (.Attribute o "append" apos) [e] [] cpos) none pos.line X.env = pure false := by rfl) :
    DS X (.Expr (.Call (.Attribute o "append" apos) [e] [] cpos) pos) (tDrop (tBM X.K "list" rAppend to (tCons te tNil))) (sAppP i fo f) [] := by
  refine ⟨ps_expr (pe_bm PySem.F.plainAttrs_list PySem.F.slot_list_append PySem.F.type_list_append mt_append ho.pe (pa_cons h.pe pa_nil hse) hb hfew hline hse rfl) hs, ?_⟩
  intro G0 H0 H ts vs env σ fl env' S g D q
  obtain ⟨⟨P, e1⟩, g1, g2⟩ := obind g
  obtain ⟨t0, g3, g4⟩ := obind g2
  dsimp only at g4
  split at g4
  · rename_i us0 hu0
    obtain ⟨⟨y, e2⟩, g5, g6⟩ := obind g4
    obtain ⟨t, g7, g8⟩ := obind g6
    dsimp only at g8
    split at g8
    · rename_i us hu
      split at g8
      · rename_i hl
        cases g8
        refine ho.ok _ _ _ _ _ _ _ _ _ _ S g1 _ fun v w H1 s1 S1 hv hc => ?_
        obtain ⟨tt0, k1, k2⟩ := atP_eq g3
        obtain ⟨G, o1, r, sG⟩ := S1.at' k1 k2 hv hc
        have r := r.unb
        rw [hu0] at r
        obtain ⟨a, xs0, o', h1, h2, _⟩ := r
        subst h1
        refine ⟨.inl ⟨rfl, xs0, .inl (.inl h2)⟩, ?_⟩
        refine h.ok _ _ _ _ _ _ _ _ _ _ S1 g5 _ fun x H2 s2 S2 => ?_
        obtain ⟨tt, k3, k4⟩ := atP_eq g7
        obtain ⟨G2, p1, p2, r1, r2, nd, sG2, fr, wr⟩ := OkS.wr (es := [y]) (ws := [x]) S2 rfl k3 k4 hv (hc.same s2)
        have ru := r1.unb
        rw [hu] at ru
        obtain ⟨a', xs, o2, h1', h2', h3', h4'⟩ := ru
        cases h1'
        subst h4'
        have nd' : (a :: (o2 ++ p2)).Nodup := nd
        have na : a ∉ o2 ++ p2 := (List.nodup_cons.mp nd').1
        refine ⟨a, xs, x, rfl, rfl, h2', by rw [h3'.len, sizeLine_eq]; omega, ?_⟩
        have r3 := (h3'.append r2).mono (Same.refl G2) (H' := upd H2 a (.lst (xs ++ [x]))) _ (wN na)
        have S3 := wr a (.lst (xs ++ [x])) (reb t (.lst (us ++ [y]))) [] [] (a :: (o2 ++ p2)) [] [] (by simp) (r1.reb ⟨a, _, _, rfl, upd_same, r3, rfl⟩) ⟨rfl, rfl⟩ (by simp)
        rw [← putP_eq k3] at S3
        exact q _ _ S3 .rfl'
      · cases g8
    · cases g8
  · cases g4
def sPutP (i : Nat) (fo : PF) (fk f : EF) : SF := fun env => (f env).bind fun r => (fo r.2).bind fun p => (fk p.2).bind fun s => (keyT s.1).bind fun k => (atP s.2 i p.1).bind fun t => match unb t with
  | .dic kvs => if kvs.length < 16000000 ∧ okPut kvs k r.1 = true then some (.nx, putP s.2 i p.1 (reb t (.dic (putT kvs k r.1)))) else none
  | _ => none
theorem ds_putP (hu : X.A.units + 1 < cLine) (ho : DP X o to i fo) (hk : DT X k tk fk) (h : DT X e te f) (hs : swapsWith e (some (.Subscript o k ipos)) pos.line X.env = pure false := by rfl) : DS X (.Assign [.Subscript o k ipos] e pos) (sDPut to tk te) (sPutP i fo fk f) [] := by
  refine ⟨ps_dput hu ho.pe hk.pe h.pe hs, ?_⟩
  intro G0 H0 H ts vs env σ fl env' S g D q
  obtain ⟨⟨y, e1⟩, g1, g2⟩ := obind g
  obtain ⟨⟨P, e2⟩, g3, g4⟩ := obind g2
  obtain ⟨⟨z, e3⟩, g5, g6⟩ := obind g4
  obtain ⟨kk, g7, g8⟩ := obind g6
  obtain ⟨t, g9, g10⟩ := obind g8
  dsimp only at g10
  split at g10
  · rename_i kvs hun
    split at g10
    · rename_i hl
      cases g10
      cases z with
      | p kd =>
        refine h.ok _ _ _ _ _ _ _ _ _ _ S g1 _ fun x H1 s1 S1 => ?_
        refine ho.ok _ _ _ _ _ _ _ _ _ _ S1 g3 _ fun v w H2 s2 S2 hv hc => ?_
        refine hk.ok _ _ _ _ _ _ _ _ _ _ S2 g5 _ fun kx H3 s3 S3 => ?_
        have ek : kx = L2.kV kk := keyD_rp (show keyD kd = some kk from g7) S3.top
        obtain ⟨tt, k3, k4⟩ := atP_eq g9
        obtain ⟨G2, p1, p2, r1, r2, nd, sG2, fr, wr⟩ := OkS.wr (es := [y]) (ws := [x]) S3.pop rfl k3 k4 hv (hc.same s3)
        have ru := r1.unb
        rw [hun] at ru
        obtain ⟨a, xs, o2, h1, h2, h3, h4⟩ := ru
        subst h1; subst h4
        have na : a ∉ o2 ++ p2 := (List.nodup_cons.mp (show (a :: (o2 ++ p2)).Nodup from nd)).1
        refine ⟨a, _, rfl, by rw [ek]; exact DPut.k h2 (by rw [h3.len, sizeLine_eq]; omega), ?_⟩
        obtain ⟨x', r', q1, q2, q3, q4, q5, q6⟩ := r2
        cases q3
        obtain ⟨e7, e8⟩ := q5
        cases e7
        subst e8
        rw [List.append_nil] at q6
        subst q6
        have m1 := h3.mono (Same.refl G2) (H' := upd H3 a (.dK (putK xs kk x))) _ (wN fun hm => na (by simp [hm]))
        have m2 := q4.mono (Same.refl G2) (H' := upd H3 a (.dK (putK xs kk x))) _ (wN fun hm => na (by simp [hm]))
        obtain ⟨o5, rest, f1, f2⟩ := m1.put m2 hl.2
        have S4 := wr a (.dK (putK xs kk x)) (reb t (.dic (putT kvs kk y))) [] [] (a :: o5) [] rest (by simp) (r1.reb ⟨a, _, _, rfl, upd_same, f1, rfl⟩) ⟨rfl, rfl⟩ (by
          simp only [List.cons_append, List.append_nil]
          exact List.Perm.cons a f2)
        rw [← putP_eq k3] at S4
        exact q _ _ S4 .rfl'
      | _ => cases g7
    · cases g10
  · cases g10
end
end DL
namespace DL
open PySem PySem.Spec PyProof.Rows L2
def EvX (K : KW) (te : TE) (f : EF) : Prop := ∀ (G0 H0 H : Hp) (ts : List T) (vs : List V) (env : Env) (σ : St) (t : T) (env' : Env), OkS K G0 H0 [] H ts vs env σ → f env = some (t, env') →
  ∀ Q : VK, (∀ v H', OkS K G0 H0 [] H' (t :: ts) (v :: vs) env' σ → Q v H') → te σ H Q
def EvAX (K : KW) (ta : TA) (f : AF) : Prop := ∀ (G0 H0 H : Hp) (ts : List T) (vs : List V) (env : Env) (σ : St) (us : List T) (env' : Env), OkS K G0 H0 [] H ts vs env σ → f env = some (us, env') →
  ∀ Q : List V → Hp → Prop, (∀ ws H', ws.length = us.length → OkS K G0 H0 [] H' (us ++ ts) (ws ++ vs) env' σ → Q ws H') → ta σ H Q
structure DX (X : Cx) (e : Expr) (te : TE) (f : EF) : Prop where
  pe : PE X e te
  ok : EvX X.kw te f
structure DAX (X : Cx) (es : List Expr) (ta : TA) (f : AF) : Prop where
  pa : PA X es ta
  ok : EvAX X.kw ta f
section
variable {X : Cx} {e a b : Expr} {es : List Expr} {te ta tb : TE} {tr : TA} {f fa fb : EF} {fr : AF} {pos : Pos}
theorem DT.dx (h : DT X e te f) : DX X e te f := ⟨h.pe, fun G0 H0 H ts vs env σ t env' S g Q q => h.ok _ _ _ _ _ _ _ _ _ _ S g Q fun v H' _ S' => q v H' S'⟩
theorem DA.dx (h : DA X es tr fr) : DAX X es tr fr := ⟨h.pa, fun G0 H0 H ts vs env σ t env' S g Q q => h.ok _ _ _ _ _ _ _ _ _ _ S g Q fun v H' _ hl S' => q v H' hl S'⟩
theorem dx_op {op : Operator} {r : R2} {g : D → D → Option D} (ho : OpR X (binaryOp op) r) (hs : Sc2 r g) (ha : DX X a ta fa) (hb : DX X b tb fb) : DX X (.BinOp a op b pos) (tOp r ta tb) (eOp g fa fb) := by
  refine ⟨pe_op ho ha.pe hb.pe, ?_⟩
  intro G0 H0 H ts vs env σ t env' S e Q q
  obtain ⟨a, e1, b, d, h1, h2, h3, rfl⟩ := eOp_some e
  refine ha.ok _ _ _ _ _ _ _ _ _ S h1 _ fun v H1 S1 => ?_
  refine hb.ok _ _ _ _ _ _ _ _ _ S1 h2 _ fun w H2 S2 => ?_
  exact hs a b d h3 X.kw H2 v w Q S2.pop.top S2.top fun u hu => q u H2 (S2.pop.pop.scal hu)
theorem dx_add (ha : DX X a ta fa) (hb : DX X b tb fb) : DX X (.BinOp a .Add b pos) (tOp rAddA ta tb) (eOp gAdd fa fb) := dx_op op_addA sc_add ha hb
theorem ds_setX {i : Nat} {x : Str} {pos' : Pos} (hN : X.N.Nodup) (hi : X.N[i]? = some x) (hx : Loc X.env.scope x) (he : DX X e te f) (hs : swapsWith e (some (.Name x pos')) pos.line X.env = pure false := by rfl) (hf : X.fn x = true ∨ X.env.scope.names.lookup x = some .local := by first | exact .inl rfl | exact .inr rfl | assumption) :
    DS X (.Assign [.Name x pos'] e pos) (tAsg te (gName i)) (sSet i f) [i] := by
  refine ⟨ps_set hN hi hx he.pe hs hf, ?_⟩
  intro G0 H0 H ts vs env σ fl env' S g D q
  obtain ⟨⟨x, e1⟩, g1, g2⟩ := obind g
  by_cases hi : i < e1.length
  · rw [if_pos hi] at g2
    cases g2
    exact he.ok _ _ _ _ _ _ _ _ _ S g1 _ fun v H' S' => q H' _ (S'.put hi) .set
  · rw [if_neg hi] at g2; cases g2
theorem ds_dropX (h : DX X e te f) (hs : swapsWith e none pos.line X.env = pure false := by rfl) : DS X (.Expr e pos) (tDrop te) (sDrop f) [] := by
  refine ⟨ps_expr h.pe hs, ?_⟩
  intro G0 H0 H ts vs env σ fl env' S g D q
  obtain ⟨⟨x, e1⟩, g1, g2⟩ := omap g
  cases g2
  exact h.ok _ _ _ _ _ _ _ _ _ S g1 _ fun v H' S' => q H' σ S'.pop .rfl'
end
def ePop (i : Nat) (fo : PF) (fk fx : EF) : EF := fun env => (fo env).bind fun r => (atP r.2 i r.1).bind fun t0 => match unb t0 with
  | .dic _ => (fk r.2).bind fun s => (fx s.2).bind fun x => (keyT s.1).bind fun k => (atP x.2 i r.1).bind fun t => match unb t with
    | .dic kvs => some (match valT kvs k with
      | some u => (u, putP x.2 i r.1 (reb t (.dic (dropT kvs k))))
      | none => (x.1, x.2))
    | _ => none
  | _ => none
section
variable {X : Cx} {e o k x : Expr} {te to tk tx : TE} {f fk fx : EF} {fo : PF} {i : Nat} {pos cpos apos ipos tpos : Pos}
theorem dx_pop (ho : DP X o to i fo) (hk : DT X k tk fk) (hx : DT X x tx fx) (m : M2 X o "pop" apos k x cpos := by exact ⟨by rfl, by rfl, by rfl, by rfl⟩) : DX X (.Call (.Attribute o "pop" apos) [k, x] [] cpos) (tDPop2 to tk tx) (ePop i fo fk fx) := by
  refine ⟨pe_dpop2 ho.pe hk.pe hx.pe m, ?_⟩
  intro G0 H0 H ts vs env σ t env' S g Q q
  obtain ⟨⟨P, e1⟩, g1, g2⟩ := obind g
  obtain ⟨t0, g3, g4⟩ := obind g2
  dsimp only at g4
  split at g4
  · rename_i kvs0 hu0
    obtain ⟨⟨z, e2⟩, g5, g6⟩ := obind g4
    obtain ⟨⟨y, e3⟩, g7, g8⟩ := obind g6
    obtain ⟨kk, g9, g10⟩ := obind g8
    obtain ⟨t1, g11, g12⟩ := obind g10
    dsimp only at g12
    split at g12
    · rename_i kvs hun
      cases z with
      | p kd =>
        refine ho.ok _ _ _ _ _ _ _ _ _ _ S g1 _ fun v w H1 s1 S1 hv hc => ?_
        obtain ⟨tt0, k1, k2⟩ := atP_eq g3
        obtain ⟨G, o1, r, sG⟩ := S1.at' k1 k2 hv hc
        have r := r.unb
        rw [hu0] at r
        obtain ⟨a, xs0, o', h1, h2, _⟩ := r
        subst h1
        refine ⟨a, rfl, .inl ⟨xs0, .inl h2⟩, ?_⟩
        refine hk.ok _ _ _ _ _ _ _ _ _ _ S1 g5 _ fun kx H2 s2 S2 => ?_
        have ek : kx = L2.kV kk := keyD_rp (show keyD kd = some kk from g9) S2.top
        refine hx.ok _ _ _ _ _ _ _ _ _ _ S2.pop g7 _ fun dx H3 s3 S3 => ?_
        obtain ⟨tt, k3, k4⟩ := atP_eq g11
        have hc3 := (hc.same s2).same s3
        obtain ⟨G2, p1, p2, r1, r2, nd, sG2, fr, wr⟩ := OkS.wr (es := []) (ws := []) S3.pop rfl k3 k4 hv hc3
        have ru := r1.unb
        rw [hun] at ru
        obtain ⟨a', xs, o2, h1', h2', h3', h4'⟩ := ru
        cases h1'
        subst h4'
        have e2' : p2 = [] := r2.2
        subst e2'
        have na : a ∉ o2 := fun hm => (List.nodup_cons.mp (show (a :: (o2 ++ [])).Nodup from nd)).1 (by simp [hm])
        refine ⟨xs, kk, h2', ek, fun u hu => ?_, fun hu => ?_⟩
        · cases hvt : valT kvs kk with
          | none => rw [h3'.noVal kk hvt] at hu; cases hu
          | some ut =>
            rw [hvt] at g12
            have g12 : (ut, putP e3 i P (reb t1 (.dic (dropT kvs kk)))) = (t, env') := Option.some.inj g12
            cases g12
            obtain ⟨w', o3, o4, rest, f1, f2, f3, f4⟩ := h3'.take kk hvt
            rw [hu] at f1; cases f1
            have n4 : a ∉ o4 := fun hm => na (f4.mem_iff.mpr (by simp [hm]))
            have n3 : a ∉ o3 := fun hm => na (f4.mem_iff.mpr (by simp [hm]))
            have S4 := wr a (.dK (dropK xs kk)) (reb t1 (.dic (dropT kvs kk))) [t] [u] (a :: o3) o4 rest (by simp) (r1.reb ⟨a, _, _, rfl, upd_same, f3.mono (Same.refl _) _ (wN n3), rfl⟩) ⟨u, [], o4, [], rfl, f2.mono (Same.refl _) _ (wN n4), ⟨rfl, rfl⟩, by simp⟩ (by
              simp only [List.cons_append, List.append_nil]
              exact List.Perm.cons a f4)
            rw [← putP_eq k3] at S4
            exact q u _ S4
        · cases hvt : valT kvs kk with
          | none =>
            rw [hvt] at g12
            have g12 : (y, e3) = (t, env') := Option.some.inj g12
            cases g12
            exact q dx H3 S3
          | some ut =>
            obtain ⟨w', o3, o4, rest, f1, _⟩ := h3'.take kk hvt
            rw [hu] at f1; cases f1
      | _ => cases g9
    · cases g12
  · cases g4
end
def spM (n : Nat) (φ : T → List D → Option (T × T)) (K : KW) : Sp := fun vs H Q _ => ∃ (t0 : T) (ds : List D) (v0 : V) (vs' : List V) (t t' : T) (G : Hp) (o : List Addr), vs = v0 :: vs' ∧ ds.length = n ∧ φ t0 ds = some (t, t') ∧ Same G H ∧ Rp K G H t0 v0 o ∧ o.Nodup ∧ (∀ a ∈ o, G a = none) ∧ RpDs K G ds vs' ∧
  ∀ v G' H' o1 o2, Same G G' → Same G' H' → (∀ a u, a ∉ o → H a = some u → H' a = some u) → Rp K G' H' t v o1 → Rp K G' H' t' v0 o2 → (o1 ++ o2).Nodup → (∀ a ∈ o1 ++ o2, G' a = none ∧ (a ∈ o ∨ H a = none)) →
    (∀ a u, G' a = some u → G a ≠ none ∨ H a = none ∨ a ∈ o ∨ Fix u) → Q v H'
def startM (n : Nat) (t0 : T) (ds : List D) : Env := some t0 :: startE (n - 1) ds
def runM (n k : Nat) (F : SF) (t0 : T) (ds : List D) : Option (T × T) := if ds.length = k then (F (startM n t0 ds)).bind fun r => match r.2[0]? with
  | some (some t') => match r.1 with
    | .rt t => some (t, t')
    | .nx => some (.p .non, t')
    | _ => none
  | _ => none
  else none
theorem runM_len {n k : Nat} {F : SF} {t0 : T} {ds : List D} {r : T × T} (h : runM n k F t0 ds = some r) : ds.length = k := by
  unfold runM at h
  by_cases hl : ds.length = k
  · exact hl
  · rw [if_neg hl] at h; cases h
section
variable {P : Program} {w : World} {K : KW} {mg : Str → Option Value} {base : Heap}
theorem okM {x qual : Str} {st : Stmt} {f : Addr} {fd : FuncData} {N ps : List Str} {k : Nat} {n np : Nat} {Fb : SF} (F : Fun K x qual st f fd) (S : FnScope N ps (defScope st)) (hn : N.length = n) (hnp : ps.length = np + 1) (hlt : 1 ≤ n)
    (hbody : ∀ (cdv : Value) (A : Around) (outer : List PySem.Env) (s : Shared) (H : Hp) (E : XK), Room k (A.deeper (envOfC qual (defScope st) s.heap.objs.size f cdv)) →
      ∃ t sl, DSs (cxOf CX0 K.P K.w K mg base N qual (defScope st) f cdv A outer s H E).nox (defBody st) t Fb sl ∧ 0 ∉ sl) : FnOk K.P K.w K mg base CX0 (k + 1) f fd ps (spM np (runM n np Fb) K) := by
  refine F.ok S (fun vs H Q E h => ?_) (fun cdv A outer s H vs Q E hr h => ?_)
  · obtain ⟨t0, ds, v0, vs', t, t', G, o, rfl, h1, _, _, _, _, _, h2, _⟩ := h
    rw [List.length_cons, h2.len, h1, hnp]
  · obtain ⟨t0, ds, v0, vs', t, t', G, o, rfl, h1, h2, h3, h4, h5, h6, h7, q⟩ := h
    obtain ⟨tr, sl, hd, h0⟩ := hbody cdv A outer s H E hr
    refine ⟨tr, hd.ps, ?_⟩
    unfold runM at h2
    rw [if_pos h1] at h2
    obtain ⟨⟨fl, e1⟩, g1, g2⟩ := obind h2
    have oH : ∀ a ∈ o, ∃ u, H a = some u := fun a ha => by
      obtain ⟨u, e, _⟩ := h4.there _ a ha
      exact ⟨u, e⟩
    have env0 : RpE K G H (startM n t0 ds) (start N (v0 :: vs')) o := by
      rw [L2_start, hn, List.map_cons, List.cons_append]
      refine ⟨v0, _, o, [], rfl, h4, ?_, by simp⟩
      rw [show n - (v0 :: vs').length = n - 1 - ds.length by rw [List.length_cons, h7.len]; omega]
      exact rpE_start h7
    have S0 : OkS K G (fun a => if a ∈ o then none else H a) [] H [] [] (startM n t0 ds) (start N (v0 :: vs')) := by
      refine ⟨G, [], o, ⟨rfl, rfl⟩, env0, by simpa using h5, fun a ha => ⟨h6 a (by simpa using ha), if_pos (by simpa using ha)⟩, Same.refl _, h3, fun a u e => ?_, fun a u e => .inl (by rw [e]; simp), fun q hq => by cases hq⟩
      by_cases c : a ∈ o
      · rw [if_pos c] at e; cases e
      · rw [if_neg c] at e; exact e
    have hσ0 : (start N (v0 :: vs'))[0]? = some (some v0) := by rw [L2_start]; rfl
    refine hd.ok G _ H [] [] _ _ fl e1 S0 g1 _ ?_
    have fin : ∀ (u : T) (v : V) (H' : Hp) (σ : St), OkS K G (fun a => if a ∈ o then none else H a) [] H' [u] [v] e1 σ → Dif sl (start N (v0 :: vs')) σ → u = t → e1[0]? = some (some t') → Q v H' := fun u v H' σ S1 df e et => by
      subst e
      have hσ : σ[0]? = some (some v0) := by rw [df.2 0 h0]; exact hσ0
      obtain ⟨G', ot, oe, s1⟩ := S1
      obtain ⟨w, r, o1, o2, a1, a2, a3, a4⟩ := s1.tmp
      cases a1
      have a5 : o2 = [] := a3.2
      subst a5
      rw [List.append_nil] at a4
      subst a4
      obtain ⟨v', oA, oB, b1, b2, b3, b4⟩ := s1.env.take et
      rw [hσ] at b1; cases b1
      have nd : (ot ++ oA).Nodup := by
        have : (ot ++ oe).Perm ((ot ++ oA) ++ oB) := by rw [List.append_assoc]; exact List.Perm.append_left _ b4
        exact (List.nodup_append.mp (this.nodup_iff.mp s1.nd)).1
      have fr : ∀ a ∈ ot ++ oA, G' a = none ∧ (a ∈ o ∨ H a = none) := fun a ha => by
        have hm : a ∈ ot ++ oe := by
          rcases List.mem_append.mp ha with ha | ha
          · exact List.mem_append_left _ ha
          · exact List.mem_append_right _ (b4.mem_iff.mpr (List.mem_append_left _ ha))
        obtain ⟨c1, c2⟩ := s1.fr a hm
        refine ⟨c1, ?_⟩
        by_cases c : a ∈ o
        · exact .inl c
        · rw [if_neg c] at c2; exact .inr c2
      refine q v G' H' ot oA s1.g0 s1.gh (fun a u c e => s1.h0 a u (by rw [if_neg c]; exact e)) a2 b2 nd fr fun a u e => ?_
      rcases s1.nw a u e with c | c | c
      · exact .inl c
      · by_cases ca : a ∈ o
        · exact .inr (.inr (.inl ca))
        · rw [if_neg ca] at c; exact .inr (.inl c)
      · exact .inr (.inr (.inr c))
    split at g2
    · rename_i t1 et
      have et : e1[0]? = some (some t1) := et
      cases fl with
      | nx =>
        have e : (T.p .non, t1) = (t, t') := Option.some.inj g2
        cases e
        exact fun H' σ' S1 df => fin _ _ H' σ' (S1.scal (z := .non) (u := .non) fun _ => rfl) df rfl et
      | rt u =>
        have e : (u, t1) = (t, t') := Option.some.inj g2
        cases e
        exact fun v H' σ' S1 df => fin _ _ H' σ' S1 df rfl et
      | bk => cases g2
      | ct => cases g2
    · cases g2
end
theorem OkS.lend {K : KW} {G0 H0 H : Hp} {ts : List T} {vs ws : List V} {ds : List D} {env : Env} {σ : St} {i : Nat} {P : List Stp} {t u : T} {v w : V} (S : OkS K G0 H0 [] H (ds.map T.p ++ ts) (ws ++ vs) env σ) (hw : ws.length = ds.length) (he : env[i]? = some (some t)) (hp : getP P t = some u)
    (hv : σ[i]? = some (some v)) (hc : Ch H P v w) : ∃ (G : Hp) (o1 : List Addr), Same G H ∧ Rp K G H u w o1 ∧ o1.Nodup ∧ (∀ a ∈ o1, G a = none) ∧ RpDs K G ds ws ∧
    ∀ (r : V) (G' H' : Hp) (p1 p2 : List Addr) (t' u' : T), Same G G' → Same G' H' → (∀ a x, a ∉ o1 → H a = some x → H' a = some x) → Rp K G' H' t' r p1 → Rp K G' H' u' w p2 → (p1 ++ p2).Nodup → (∀ a ∈ p1 ++ p2, G' a = none ∧ (a ∈ o1 ∨ H a = none)) →
      (∀ a x, G' a = some x → G a ≠ none ∨ H a = none ∨ a ∈ o1 ∨ Fix x) → OkS K G0 H0 [] H' (t' :: ts) (r :: vs) (env.set i (some (setP P t u'))) σ := by
  obtain ⟨G, ot, oe, s⟩ := S
  obtain ⟨o2, o5, k1, k2, k3⟩ := s.tmp.split (us := ds.map T.p) (by rw [List.length_map]; exact hw)
  obtain ⟨kd, k4⟩ := rpDs_of k1
  subst k4
  have k3 : ot = o5 := k3
  subst k3
  obtain ⟨v', oA, oB, e1, e2, e3, e4⟩ := s.env.take he
  rw [hv] at e1
  cases e1
  obtain ⟨w', o1, o6, f1, f2, f3, f4⟩ := e2.foc s.gh hp
  have := f1.det hc
  subst this
  have pm : (ot ++ oe).Perm (o1 ++ (o6 ++ (ot ++ oB))) := by
    have q1 : (ot ++ oe).Perm (ot ++ ((o1 ++ o6) ++ oB)) := List.Perm.append_left _ (e4.trans (List.Perm.append_right _ f3))
    refine q1.trans (List.perm_iff_count.mpr fun x => by simp only [List.count_append]; omega)
  have nd := pm.nodup_iff.mp s.nd
  have fr : ∀ b ∈ o1 ++ (o6 ++ (ot ++ oB)), G b = none ∧ H0 b = none := fun b hb => s.fr b (pm.mem_iff.mpr hb)
  have thr : ∀ b ∈ o6 ++ (ot ++ oB), ∃ x, H b = some x ∧ ¬ Fix x := fun b hb => by
    have : b ∈ ot ++ oe := pm.mem_iff.mpr (List.mem_append_right _ hb)
    rcases List.mem_append.mp this with h | h
    · exact s.tmp.there _ b h
    · exact s.env.there _ b h
  refine ⟨G, o1, s.gh, f2, (List.nodup_append.mp nd).1, fun a ha => (fr a (List.mem_append_left _ ha)).1, kd, fun r G' H' p1 p2 t' u' g1 g2 g3 g4 g5 g6 g7 g8 => ?_⟩
  have out : ∀ b ∈ o6 ++ (ot ++ oB), b ∉ o1 := fun b hb h => (List.nodup_append.mp nd).2.2 b h b hb rfl
  have kp : ∀ b ∈ o6 ++ (ot ++ oB), H' b = H b := fun b hb => by
    obtain ⟨x, e, _⟩ := thr b hb
    rw [e, g3 b x (out b hb) e]
  obtain ⟨o7, q1, q2⟩ := f4 g1 (fun b hb => kp b (by simp [hb])) g5
  have e3' := e3.mono g1 _ (fun b hb => kp b (by simp [hb]))
  have hl : i < env.length := (List.getElem?_eq_some_iff.mp he).1
  obtain ⟨o8, h1, h2⟩ := e3'.put (i := i) (by simpa using hl) (fun x z => by rw [List.getElem?_set_self hl] at z; cases z) q1
  rw [List.set_set, set_back hv] at h1
  have t2 := k2.mono g1 _ (fun b hb => kp b (by simp [hb]))
  have pm8 : o8.Perm (p2 ++ (o6 ++ oB)) := h2.trans (by rw [← List.append_assoc]; exact List.Perm.append_right _ q2)
  have pmN : ((p1 ++ ot) ++ o8).Perm ((p1 ++ p2) ++ (o6 ++ (ot ++ oB))) := (List.Perm.append_left _ pm8).trans (List.perm_iff_count.mpr fun x => by simp only [List.count_append]; omega)
  refine ⟨G', p1 ++ ot, o8, ⟨r, vs, p1, ot, rfl, g4, t2, rfl⟩, h1, pmN.nodup_iff.mpr ?_, fun a ha => ?_, s.g0.trans g1, g2, fun a x e => ?_, fun a x e => ?_, fun q hq => by cases hq⟩
  · refine List.nodup_append.mpr ⟨g6, (List.nodup_append.mp nd).2.1, fun a ha b hb e => ?_⟩
    subst e
    rcases (g7 a ha).2 with c | c
    · exact out a hb c
    · obtain ⟨x, ex, _⟩ := thr a hb
      rw [c] at ex; cases ex
  · rcases List.mem_append.mp (pmN.mem_iff.mp ha) with ha | ha
    · obtain ⟨c1, c2⟩ := g7 a ha
      refine ⟨c1, ?_⟩
      rcases c2 with c2 | c2
      · exact (fr a (List.mem_append_left _ c2)).2
      · exact Same.none s.h0 c2
    · refine ⟨?_, (fr a (List.mem_append_right _ ha)).2⟩
      cases q : G' a with
      | none => rfl
      | some x =>
        obtain ⟨x', ex, ne⟩ := thr a ha
        rcases g8 a x q with z | z | z | z
        · exact absurd (fr a (List.mem_append_right _ ha)).1 z
        · rw [z] at ex; cases ex
        · exact absurd z (out a ha)
        · have := g2 a x q
          rw [g3 a x' (out a ha) ex] at this
          cases this
          exact absurd z ne
  · have na : a ∉ o1 := fun h => by rw [(fr a (List.mem_append_left _ h)).2] at e; cases e
    exact g3 a x na (s.h0 a x e)
  · rcases g8 a x e with z | z | z | z
    · cases q : G a with
      | none => exact absurd q z
      | some y =>
        have := g1 a y q
        rw [e] at this; cases this
        exact s.nw a x q
    · exact .inr (.inl (Same.none s.h0 z))
    · exact .inr (.inl (fr a (List.mem_append_left _ z)).2)
    · exact .inr (.inr z)
def eCallM (φ : T → List D → Option (T × T)) (i : Nat) (fo : PF) (fr : AF) : EF := fun env => (fo env).bind fun r => (fr r.2).bind fun s => (allP s.1).bind fun ds => (atP s.2 i r.1).bind fun t0 => (φ t0 ds).map fun z => (z.1, putP s.2 i r.1 z.2)
section
variable {X : Cx} {k : Nat} {f C : Addr} {fd : FuncData} {ps : List Str} {n : Nat} {φ : T → List D → Option (T × T)} {x m : Str} {p pos apos : Pos} {e o : Expr} {es : List Expr} {to : TE} {fo : PF} {i : Nat} {ta : TA} {fa : AF}
theorem ev_lend (hφ : ∀ t ds r, φ t ds = some r → ds.length = n) (ha : DA X es ta fa) {G0 H0 H : Hp} {ts : List T} {vs : List V} {env : Env} {σ : St} {P : List Stp} {v w : V} (S : OkS X.kw G0 H0 [] H ts vs env σ) (hv : σ[i]? = some (some v)) (hc : Ch H P v w) {t : T} {env' : Env}
    (g : (fa env).bind (fun s => (allP s.1).bind fun ds => (atP s.2 i P).bind fun t0 => (φ t0 ds).map fun z => (z.1, putP s.2 i P z.2)) = some (t, env')) {Q : VK} (q : ∀ v H', OkS X.kw G0 H0 [] H' (t :: ts) (v :: vs) env' σ → Q v H') :
    ta σ H fun ws H2 => spM n φ X.kw (w :: ws) H2 Q E0 := by
  obtain ⟨⟨us, e1⟩, g1, g2⟩ := obind g
  obtain ⟨ds, g3, g4⟩ := obind g2
  obtain ⟨t0, g5, g6⟩ := obind g4
  obtain ⟨⟨t1, t2⟩, g7, g8⟩ := omap g6
  cases g8
  have eu : us = ds.map T.p := allP_eq g3
  subst eu
  refine ha.ok _ _ _ _ _ _ _ _ _ _ S g1 _ fun ws H2 s2 hl S2 => ?_
  obtain ⟨tt, k3, k4⟩ := atP_eq g5
  obtain ⟨G, o1, h1, h2, h3, h4, h5, h6⟩ := S2.lend (by simpa using hl) k3 k4 hv (hc.same s2)
  refine ⟨t0, ds, w, ws, t1, t2, G, o1, rfl, hφ _ _ _ g7, g7, h1, h2, h3, h4, h5, fun r G' H' p1 p2 c1 c2 c3 c4 c5 c6 c7 c8 => ?_⟩
  have S3 := h6 r G' H' p1 p2 t1 t2 c1 c2 c3 c4 c5 c6 c7 c8
  rw [← putP_eq k3] at S3
  exact q r H' S3
theorem dx_callM (hφ : ∀ t ds r, φ t ds = some r → ds.length = n) (F : FnOk X.prog X.w X.K X.mg X.base CX0 k f fd ps (spM n φ X.kw)) (hr : Room k X.A) (hg : Gl X x) (hm : X.mg x = some (.ref f)) (hk : PySem.W.keepIn X.K (.ref f) = true) (hb : Binds X.K fd ps [])
    (ho : DP X o to i fo) (ha : DA X es ta fa) (hdb : (x == ("__debug__" : Str)) = false := by decide) (he : starEach (o :: es) X.env = (false, eval o X.env) :: starEach es X.env := by rfl) (hpl : (backTo pos (starEach es X.env)).any (·.1) = false := by rfl) :
    DX X (.Call (.Name x p) (o :: es) [] pos) (tCall (spM n φ X.kw) [] E0 (tCons to ta)) (eCallM φ i fo fa) := by
  refine ⟨pe_call F hr hg hm hk hb .nil pass0 (pa_cons ho.pe ha.pa he) hdb he hpl, ?_⟩
  intro G0 H0 H ts vs env σ t env' S g Q q
  obtain ⟨⟨P, e1⟩, g1, g2⟩ := obind g
  refine ho.ok _ _ _ _ _ _ _ _ _ _ S g1 _ fun v w H1 s1 S1 hv hc => ?_
  have := ev_lend hφ ha S1 hv hc g2 q
  show ta σ H1 fun ws H2 => spM n φ X.kw ((w :: ws) ++ []) H2 Q E0
  simpa using this
end
end DL
namespace DL
open PySem PySem.Spec PyProof.Rows L2
theorem ev_compX {K : KW} {wi : TI} {fi : IF} {g : TG} {G : GF} {sl own : List Nat} {tt : TT} {ct : CF} {te : TE} {fe : EF} (hI : EvI K wi fi) (hg : EvG K g G sl) (hsl : ∀ j ∈ sl, j ∈ own) (ht : EvC K tt ct) (he : EvX K te fe) : EvX K (tLc wi g tt te own) (eComp own fi G ct fe) := by
  intro G0 H0 H ts vs env σ t env' S e Q q
  obtain ⟨⟨ds, e1⟩, g1, g2⟩ := obind e
  by_cases hlen : ds.length ≤ 1000000
  · rw [if_pos hlen] at g2
    obtain ⟨⟨us, e2⟩, g3, g4⟩ := omap g2
    cases g4
    refine hI _ _ _ _ _ _ _ _ _ _ S g1 _ fun J H1 G1 s1 gst I S1 => ?_
    intro D hD
    have S3 : OkS K G1 H0 [] (upd H1 D (.lst [])) (.lst [] :: ts) (.ref D :: vs) (wipeE e1 own) (wipe σ own) := (OkS.newL (us := []) (ws := []) rfl S1 hD).toWipe own
    refine ⟨fun i m H => m = ds.length - i ∧ i ≤ ds.length ∧ ∃ env acc rest, OkS K G1 H0 [] H (.lst acc :: ts) (.ref D :: vs) env (wipe σ own) ∧ compD own G ct fe (ds.drop i) env = some (rest, e2) ∧ us = acc ++ rest ∧ acc.length ≤ i ∧ (∀ (j : Nat) (t : T), env[j]? = some (some t) → j ∉ own),
      ⟨ds.length, by simp, Nat.zero_le _, wipeE e1 own, [], us, S3, by simpa using g3, rfl, Nat.le_refl _, fun j t e => (wipeE_some e).1⟩, ?_⟩
    rintro i m Hi ⟨rfl, hle, envi, acc, rest, Si, hc, hu, ha, hw0⟩
    by_cases hlt : i < ds.length
    · refine .inr ⟨I.go i Hi Si.same hlt, fun H' => i + 1 ≤ ds.length ∧ ∃ env acc rest, OkS K G1 H0 [] H' (.lst acc :: ts) (.ref D :: vs) env (wipe σ own) ∧ compD own G ct fe (ds.drop (i + 1)) env = some (rest, e2) ∧ us = acc ++ rest ∧ acc.length ≤ i + 1 ∧ (∀ (j : Nat) (t : T), env[j]? = some (some t) → j ∉ own), fun H' ⟨h1, h2⟩ => ⟨ds.length - (i + 1), by omega, rfl, h1, h2⟩, fun x H3 y => ?_⟩
      obtain ⟨s3, S4⟩ := I.item Si (List.getElem?_eq_getElem hlt) y
      rw [List.drop_eq_getElem_cons hlt] at hc
      obtain ⟨e3, l1, l2⟩ := obind hc
      obtain ⟨⟨b, e4⟩, l3, l4⟩ := obind l2
      refine hg _ _ _ _ _ _ _ _ _ _ _ S4 l1 _ fun σ2 S5 dif => ?_
      have hw : wipe σ2 own = wipe σ own := by
        refine wipe_eq (dif.1.trans (wipe_length _ _)) fun j hj => (dif.2 j fun z => hj (hsl j z)).trans (wipe_out' hj)
      have again : ∀ {H4 : Hp} {e5 : Env} {acc' : List T}, OkS K G1 H0 [] H4 (.lst acc' :: ts) (.ref D :: vs) e5 σ2 → OkS K G1 H0 [] H4 (.lst acc' :: ts) (.ref D :: vs) (wipeE e5 own) (wipe σ own) := fun S => by
        rw [← hw]; exact S.toWipe own
      refine ⟨hw, ?_⟩
      refine ht _ _ _ _ _ _ _ _ _ _ S5 l3 _ fun H4 s4 S6 => ?_
      cases b with
      | false =>
        rw [if_neg Bool.false_ne_true]
        exact ⟨hlt, _, acc, rest, again S6, l4, hu, by omega, fun j t e => (wipeE_some e).1⟩
      | true =>
        rw [if_pos rfl]
        obtain ⟨⟨u, e5⟩, l5, l6⟩ := obind (show (fe e4).bind (fun s => (compD own G ct fe (ds.drop (i + 1)) (wipeE s.2 own)).map fun z => (s.1 :: z.1, z.2)) = some (rest, e2) from l4)
        obtain ⟨⟨zs, e6⟩, l7, l8⟩ := omap l6
        cases l8
        refine he _ _ _ _ _ _ _ _ _ S6 l5 _ fun y H5 S7 => ?_
        have S8 : OkS K G1 H0 [] H5 (.lst acc :: ([u] ++ ts)) (.ref D :: ([y] ++ vs)) e5 σ2 := OkS.mid (us := [u]) (ws := [y]) (x := .lst acc) (y := .ref D) rfl S7
        obtain ⟨a, xs, k1, k2, k3, k4⟩ := OkS.wrL (es := [u]) (ws := [y]) S8 rfl
        cases k1
        exact ⟨xs, k2, by rw [k3, sizeLine_eq]; omega, hlt, _, acc ++ [u], zs, again (k4 (acc ++ [u]) (xs ++ [y]) fun G o1 o2 r1 r2 => ⟨o1 ++ o2, [], r1.append r2, by simp⟩), l7, by rw [hu]; simp, by simp; omega, fun j t e => (wipeE_some e).1⟩
    · have hi' : i = ds.length := by omega
      subst hi'
      rw [List.drop_length] at hc
      cases hc
      rw [List.append_nil] at hu
      subst hu
      have Sf : OkS K G1 H0 [] Hi (.lst us :: ts) (.ref D :: vs) e2 σ := Si.slots (by rw [wipe_length]) fun j t e => (wipe_out' (hw0 j t e)).symm
      exact .inl ⟨I.stop Hi Si.same, q _ Hi (Sf.back gst)⟩
  · rw [if_neg hlen] at g2; cases g2
def teX (K : KW) (f : EF) : TE := fun σ H Q => ∃ (G0 H0 : Hp) (ts : List T) (vs : List V) (env : Env) (t : T) (env' : Env), OkS K G0 H0 [] H ts vs env σ ∧ f env = some (t, env') ∧ ∀ v H', OkS K G0 H0 [] H' (t :: ts) (v :: vs) env' σ → Q v H'
theorem ev_teX {K : KW} {f : EF} : EvX K (teX K f) f := fun G0 H0 H ts vs env σ t env' S e Q q => ⟨G0, H0, ts, vs, env, t, env', S, e, q⟩
theorem pe_X {X : Cx} {e : Expr} {te : TE} {f : EF} (h : DX X e te f) : PE X e (teX X.kw f) := ⟨fun pins s σ H Q I ⟨_, _, _, _, _, _, _, S, g, q⟩ => h.pe.run pins s σ H Q I (h.ok _ _ _ _ _ _ _ _ _ S g Q q)⟩
section
variable {X : Cx} {elt tg iter : Expr} {ifs : List Expr} {scope : Scope} {own : List (Str × Nat)} {pos spos py : Pos} {wi : TI} {fi : IF} {g : Shared → Hp → Addr → List (Str × Addr) → List Addr → TG} {G : GF} {sl : List Nat} {tt : Shared → Hp → Addr → List (Str × Addr) → List Addr → TT} {ct : CF} {te : Shared → Hp → Addr → List (Str × Addr) → List Addr → TE} {fe : EF} {i : Nat} {y : Str}
theorem evs_setX {K : KW} {i : Nat} {te : TE} {f : EF} (h : EvX K te f) : EvS K (tAsg te (gName i)) (sSet i f) [i] := by
  intro G0 H0 H ts vs env σ fl env' S g D q
  obtain ⟨⟨x, e1⟩, g1, g2⟩ := obind g
  by_cases hi : i < e1.length
  · rw [if_pos hi] at g2
    cases g2
    exact h _ _ _ _ _ _ _ _ _ S g1 _ fun v H' S' => q H' _ (S'.put hi) .set
  · rw [if_neg hi] at g2; cases g2
theorem ds_setLcX (hc : X.calm = true) (hN : X.N.Nodup) (hy : X.N[i]? = some y) (hyl : X.env.scope.names.lookup y = some .local)
    (hsw : swapsWith (.ListComp elt [⟨tg, iter, ifs, 0⟩] scope pos) (some (.Name y py)) spos.line X.env = pure true) (hi : DI X tg iter wi fi) (ok : BlkOk X.N X.env.scope scope own)
    (hg : ∀ (s : Shared) (H : Hp) (C : Addr) (cl : List (Str × Addr)) (fp : List Addr), DG (X.blk s H scope (compEnvC scope cl C X.env) fp) tg (g s H C cl fp) G sl) (ht : ∀ (s : Shared) (H : Hp) (C : Addr) (cl : List (Str × Addr)) (fp : List Addr), DTs (X.blk s H scope (compEnvC scope cl C X.env) fp) ifs (tt s H C cl fp) ct)
    (he : ∀ (s : Shared) (H : Hp) (C : Addr) (cl : List (Str × Addr)) (fp : List Addr), DX (X.blk s H scope (compEnvC scope cl C X.env) fp) elt (te s H C cl fp) fe) (hsl : ∀ j ∈ sl, j ∈ own.map (·.2) := by decide) (hs : ∀ x, foldedSetIterable iter X.env x = pure x := by intro _; rfl) :
    DS X (.Assign [.Name y py] (.ListComp elt [⟨tg, iter, ifs, 0⟩] scope pos) spos) (tAsg (tLc wi (tgW X.kw G sl) (ttW X.kw ct) (teX X.kw fe) (own.map (·.2))) (gName i)) (sSet i (eComp (own.map (·.2)) fi G ct fe)) [i] :=
  ⟨ps_setLc hc hN hy hyl hsw hi.pi ok (fun s H C cl fp => pg_W (hg s H C cl fp)) (fun s H C cl fp => pts_W (ht s H C cl fp)) (fun s H C cl fp => pe_X (he s H C cl fp)) hs,
    evs_setX (ev_compX hi.ok ev_tgW hsl ev_ttW ev_teX)⟩
end
section
variable {X : Cx} {e o k : Expr} {te to tk : TE} {f fk : EF} {fo : PF} {i : Nat} {pos ipos tpos : Pos}
end
end DL
namespace DB
open PySem PySem.Spec PyProof.Rows L2
theorem vals_keys : ∀ {kvs : List (Key × V)} {vs : List (Key × Value)} {its : List Value}, KV kvs vs → its.length = vs.length → (∀ (j : Nat) (v : Value), its[j]? = some v → ∃ (k : Key) (x : Value), vs[j]? = some (k, x) ∧ keyIs k v = true) → Vals (kvs.map fun kv => L2.kV kv.1) its
  | [], _, its, .nil, hl, _ => by
    cases its with
    | nil => exact .nil
    | cons _ _ => simp at hl
  | (k, y) :: kvs, _, its, .cons h t, hl, hp => by
    cases its with
    | nil => simp at hl
    | cons v its =>
      rename_i q vs
      obtain ⟨k', x, e1, e2⟩ := hp 0 v rfl
      have e1 : q = (k', x) := Option.some.inj e1
      subst e1
      refine .cons ?_ (vals_keys t (by simpa using hl) fun j u e => hp (j + 1) u (by simpa using e))
      show RelV (L2.kV k) v
      rw [show k = k' from h.1]
      exact relV_key e2
theorem vals_vals : ∀ {kvs : List (Key × V)} {vs : List (Key × Value)} {its : List Value}, KV kvs vs → its.length = vs.length → (∀ (j : Nat) (v : Value), its[j]? = some v → ∃ (k : Key), vs[j]? = some (k, v)) → Vals (kvs.map fun kv => kv.2) its
  | [], _, its, .nil, hl, _ => by
    cases its with
    | nil => exact .nil
    | cons _ _ => simp at hl
  | (k, y) :: kvs, _, its, .cons h t, hl, hp => by
    cases its with
    | nil => simp at hl
    | cons v its =>
      rename_i q vs
      obtain ⟨k', e1⟩ := hp 0 v rfl
      have e1 : q = (k', v) := Option.some.inj e1
      subst e1
      exact .cons h.2 (vals_vals t (by simpa using hl) fun j u e => hp (j + 1) u (by simpa using e))
theorem dict_at {X : Cx} {pins : List (Addr × Obj)} {σ : L2.St} {H : Hp} {s : Shared} {a : Addr} {kvs : List (Key × V)} (I : Inv X pins σ H s) (h : Rd H a (.dK kvs)) : ∃ vs, kvs.length ≤ sizeLine ∧ (a == sysModules) = false ∧ KV kvs vs ∧ s.heap.DictOf (mixKind X.prog X.w) a vs := by
  rcases h with h | ⟨o, h⟩
  · obtain ⟨h1, h2, vs, h3, h4⟩ := I.hok a _ h
    exact ⟨vs, h1, h2, h3, h4⟩
  · obtain ⟨_, ⟨h1, h2, vs, h3, h4⟩⟩ := I.hok a _ h
    exact ⟨vs, h1, h2, h3, h4⟩
theorem call_listD {X : Cx} (hc : X.calm = true) : CallR X (.type "list") (fun xs H Q => ∃ (a : Addr) (kvs : List (Key × V)), xs = [.ref a] ∧ Rd H a (.dK kvs) ∧ ∀ p, H p = none → Q (.ref p) (upd H p (.lst (kvs.map fun kv => L2.kV kv.1)))) := by
  intro pins s σ H xs us Q I r q
  obtain ⟨a, kvs, rfl, hd, q⟩ := q
  obtain ⟨u, rfl, rx⟩ := vals1 r
  cases rx
  obtain ⟨vs, hz, h0, kv, hdo⟩ := dict_at I hd
  obtain ⟨ep, hat⟩ := hdo.dictAt
  have ln : kvs.length = vs.length := Paired.length kv
  refine PySem.W.kdl_call (PySem.W.kdl_dict (knd := mixKind X.prog X.w) (kvs := vs) (ep := ep) h0) (I.ok.hd hc) hat (by omega) fun h' tk acc c kp hS hI => ?_
  have vl : Vals (kvs.map fun kv => L2.kV kv.1) acc.toList := vals_keys kv (by rw [Array.length_toList]; exact hI.1) fun j v e => hI.2 j v (by rw [← Array.getElem?_toList]; exact e)
  exact ⟨.ref s.heap.objs.size, _, I.laid (t' := tk) kp (Nat.le_refl _) (show ObjOk X.prog X.w _ h' _ (.lst (kvs.map fun kv => L2.kV kv.1)) from ⟨by rw [List.length_map]; exact hz, acc.toList, c, vl, by rw [Array.toArray_toList]; exact hS⟩), rfl, q _ (I.hok.fresh (Nat.le_refl _))⟩
def tListVals (te : TE) : TE := fun σ H Q => te σ H fun x H1 => ∃ (a : Addr) (kvs : List (Key × V)), x = .ref a ∧ Rd H1 a (.dK kvs) ∧ ∀ p, H1 p = none → Q (.ref p) (upd H1 p (.lst (kvs.map fun kv => kv.2)))
theorem pe_listVals {X : Cx} {e : Expr} {te : TE} {p apos cpos pos : Pos} (hc : X.calm = true) (he : PE X e te) (hg : Gl X "list") (hm : X.mg "list" = none) (hv : bootBuiltins "list" = some (.type "list")) (hbase : attributeBase e "values" X.env (eval e X.env) = eval e X.env := by rfl) (hline : (apos.endLine == cpos.line) = true := by rfl)
    (hs : starEach [.Call (.Attribute e "values" apos) [] [] cpos] X.env = (false, eval (.Call (.Attribute e "values" apos) [] [] cpos) X.env) :: starEach [] X.env := by rfl) : PE X (.Call (.Name "list" p) [.Call (.Attribute e "values" apos) [] [] cpos] [] pos) (tListVals te) := by
  refine ⟨fun pins s σ H Q I hq => ?_⟩
  refine wpAny_Call_Name_kw (ld_blt I hg hm hv (PyProof.Rows.callWith_type1 ?_ hs rfl)); rw [hs]
  show wpAny _ _ (spliced ((false, eval (.Call (.Attribute e "values" apos) [] [] cpos) X.env) :: backTo pos (starEach [] X.env))) _ _ s; refine Calls.spliced_cons ?_
  refine wpAny_Call_method (T := "dict") (id := "dict.values") hbase rfl hline PySem.F.plainAttrs_dict PySem.F.slot_dict_values PySem.F.type_dict_values (thn (he.run pins s σ H _ I hq) fun u s1 ⟨x, H1, I1, rx, d, kvs, ex, hd, q⟩ => ?_)
  subst ex
  obtain rfl : u = Value.ref d := rx
  obtain ⟨vs, hz, h0, kv, hdo⟩ := dict_at I1 hd
  obtain ⟨ep, hat⟩ := hdo.dictAt
  have ln : kvs.length = vs.length := Paired.length kv
  have I2 : Inv X pins σ H1 { s1 with heap := s1.heap.push { cls := .type "dict_values", data := .fields #[.ref d] } } := I1.kept (t' := s1.toks) fun b ob q => Heap.get?_push_of_some _ q
  refine ⟨hdo.typeIs, hdo.mapOf.noDict, ?_⟩
  show wpAny _ _ (callWith cpos (.builtin "dict.values") [.ref d] [] []) _ X.xe s1
  refine method_meetsIn PySem.F.slot_dict_values PySem.F.entry_dict_values rfl (PySem.evalArgs_none ⟨rfl, hdo.typeIs, PySem.F.args_dict_values_1 _, _, meets_dict_values (mixKind X.prog X.w) d h0, ⟨vs, hdo⟩, Calls.spliced_nil ?_⟩)
  refine PySem.W.kdl_call (PySem.W.kdl_values (knd := mixKind X.prog X.w) (kvs := vs) (ep := ep)) (I1.ok.hd hc) ⟨⟨_, Heap.get?_push_size _ rfl, rfl, rfl⟩, hat.push _⟩ (by omega) fun h' tk acc c kp hS hI => ?_
  have vl : Vals (kvs.map fun kv => kv.2) acc.toList := vals_vals kv (by rw [Array.length_toList]; exact hI.1) fun j v e => hI.2 j v (by rw [← Array.getElem?_toList]; exact e)
  exact ⟨.ref _, _, I2.laid (t' := tk) kp (Nat.le_refl _) (show ObjOk X.prog X.w _ h' _ (.lst (kvs.map fun kv => kv.2)) from ⟨by rw [List.length_map]; exact hz, acc.toList, c, vl, by rw [Array.toArray_toList]; exact hS⟩), rfl, q _ (I2.hok.fresh (Nat.le_refl _))⟩
end DB
namespace DL
open PySem PySem.Spec PyProof.Rows L2
def kD : Key → D
  | .inl i => .int i
  | .inr s => .str s
theorem kD_rp {K : KW} {G : Hp} (k : Key) : RpD K G (kD k) (L2.kV k) := by
  cases k with
  | inl i => exact rfl
  | inr s => exact rfl
theorem kD_rps {K : KW} {G : Hp} : ∀ ks : List Key, RpDs K G (ks.map kD) (ks.map L2.kV)
  | [] => rfl
  | k :: ks => ⟨_, _, rfl, kD_rp k, kD_rps ks⟩
def keysT : T → Option (List Key)
  | .dic kvs => some (kvs.map (·.1))
  | .p (.dic kvs) => some (kvs.map (·.1))
  | _ => none
theorem RpTk.keys {K : KW} {G H : Hp} : ∀ {kvs : List (Key × T)} {xs : List (Key × V)} {o : List Addr}, RpTk K G H kvs xs o → xs.map (·.1) = kvs.map (·.1)
  | [], _, _, h => by rw [h.1]; rfl
  | (j, d) :: r, _, _, ⟨v, r', o1, o2, h1, h2, h3, h4⟩ => by rw [h1, List.map_cons, List.map_cons, RpTk.keys h3]
theorem RpKs.keys {K : KW} {G : Hp} : ∀ {kvs : List (Key × D)} {xs : List (Key × V)}, RpKs K G kvs xs → xs.map (·.1) = kvs.map (·.1)
  | [], _, h => by rw [show _ = _ from h]; rfl
  | (j, d) :: r, _, ⟨v, r', h1, h2, h3⟩ => by rw [h1, List.map_cons, List.map_cons, RpKs.keys h3]
theorem RpKs.vals {K : KW} {G : Hp} : ∀ {kvs : List (Key × D)} {xs : List (Key × V)}, RpKs K G kvs xs → RpDs K G (kvs.map (·.2)) (xs.map (·.2))
  | [], _, h => by rw [show _ = _ from h]; exact rfl
  | (j, d) :: r, _, ⟨v, r', h1, h2, h3⟩ => by subst h1; exact ⟨v, _, rfl, h2, RpKs.vals h3⟩
section
variable {K : KW} {G0 H0 H : Hp} {W : List (T × V)} {ts : List T} {vs : List V} {env : Env} {σ : St} {t : T} {v : V}
theorem OkS.keys {ks : List Key} (S : OkS K G0 H0 ((t, v) :: W) H ts vs env σ) (h : keysT (unb t) = some ks) : ∃ a xs, v = .ref a ∧ Rd H a (.dK xs) ∧ xs.map (·.1) = ks := by
  obtain ⟨G, ot, oe, s⟩ := S
  obtain ⟨o, r⟩ : ∃ o, Rp K G H t v o := s.vw (t, v) (by simp)
  have r := r.unb
  cases hu : unb t with
  | dic kvs =>
    rw [hu] at h r
    cases h
    obtain ⟨a, xs, o', h1, h2, h3, h4⟩ := r
    exact ⟨a, xs, h1, .inl h2, h3.keys⟩
  | p d =>
    rw [hu] at h r
    cases d with
    | dic kvs =>
      cases h
      obtain ⟨⟨a, xs, h1, h2, h3⟩, _⟩ := r
      exact ⟨a, xs, h1, Same.rd s.gh h2, h3.keys⟩
    | _ => cases h
  | _ => rw [hu] at h; cases h
theorem OkS.viewDs {ds : List D} {xs : List V} (S : OkS K G0 H0 W H ts vs env σ) (h : ∀ G ot oe, St0 K G0 H0 W G H ts vs env σ ot oe → RpDs K G ds xs) : OkS K G0 H0 W H (ds.map T.p ++ ts) (xs ++ vs) env σ := by
  obtain ⟨G, ot, oe, s⟩ := S
  exact OkS.pushD s (h G ot oe s)
end
section
variable {X : Cx} {e : Expr} {te : TE} {f : EF} {p pos apos cpos : Pos}
def eKeysL (f : EF) : EF := fun env => (f env).bind fun r => (keysT (unb r.1)).map fun ks => (.lst ((ks.map kD).map T.p), r.2)
theorem dt_listD (hc : X.calm = true) (hg : Gl X "list") (hm : X.mg "list" = none) (h : DV X e te f) (hv : bootBuiltins "list" = some (.type "list") := by decide +kernel) (hs : starEach [e] X.env = (false, eval e X.env) :: starEach [] X.env := by rfl) :
    DT X (.Call (.Name "list" p) [e] [] pos) (tCB (fun xs H Q => ∃ (a : Addr) (kvs : List (Key × V)), xs = [.ref a] ∧ Rd H a (.dK kvs) ∧ ∀ p, H p = none → Q (.ref p) (upd H p (.lst (kvs.map fun kv => L2.kV kv.1)))) (tCons te tNil)) (eKeysL f) := by
  refine ⟨pe_callTy (DB.call_listD hc) hg hm hv (pa_cons h.pe pa_nil hs) (by decide) (by decide) hs, ?_⟩
  intro G0 H0 W H ts vs env σ t env' S e Q q
  obtain ⟨⟨u, e1⟩, h1, h2⟩ := obind e
  obtain ⟨ks, h3, h4⟩ := omap h2
  cases h4
  refine h.ok _ _ _ _ _ _ _ _ _ _ S h1 _ fun v H1 s1 S1 => ?_
  obtain ⟨a, xs, k1, k2, k3⟩ := S1.keys h3
  refine ⟨a, xs, by rw [k1], k2, fun l hl => ?_⟩
  have hx : (xs.map fun kv => L2.kV kv.1) = ks.map L2.kV := by rw [← k3, List.map_map]; rfl
  rw [hx]
  have S2 := S1.unview.viewDs (ds := ks.map kD) (xs := ks.map L2.kV) fun G ot oe s => kD_rps ks
  exact q _ _ (s1.trans (same_upd hl)) (S2.newL (by simp) hl)
def eValsL (f : EF) : EF := fun env => (f env).bind fun r => (dicT (unb r.1)).map fun kvs => (.lst ((kvs.map (·.2)).map T.p), r.2)
theorem St0.dicU {K : KW} {G0 H0 G H : Hp} {W : List (T × V)} {ts : List T} {vs : List V} {env : Env} {σ : St} {ot oe : List Addr} {t : T} {v : V} {ds : List (Key × D)} (s : St0 K G0 H0 W G H ts vs env σ ot oe) (hq : (t, v) ∈ W) (h : dicT (unb t) = some ds) : ∃ a xs, v = .ref a ∧ Rd H a (.dK xs) ∧ RpKs K G ds xs := by
  cases t with
  | box a t =>
    obtain ⟨o, r⟩ := s.vw _ hq
    have s' : St0 K G0 H0 ((t, v) :: W) G H ts vs env σ ot oe := ⟨s.tmp, s.env, s.nd, s.fr, s.g0, s.gh, s.h0, s.nw, fun q hq => by
      rcases List.mem_cons.mp hq with e | hq
      · subst e; exact ⟨o, r.2⟩
      · exact s.vw q hq⟩
    exact s'.dic (t := t) (v := v) (by simp) h
  | _ => exact s.dic hq h
theorem dt_listVals (hc : X.calm = true) (hg : Gl X "list") (hm : X.mg "list" = none) (h : DV X e te f) (hv : bootBuiltins "list" = some (.type "list") := by decide +kernel) (hbase : attributeBase e "values" X.env (eval e X.env) = eval e X.env := by rfl) (hline : (apos.endLine == cpos.line) = true := by rfl)
    (hs : starEach [.Call (.Attribute e "values" apos) [] [] cpos] X.env = (false, eval (.Call (.Attribute e "values" apos) [] [] cpos) X.env) :: starEach [] X.env := by rfl) : DT X (.Call (.Name "list" p) [.Call (.Attribute e "values" apos) [] [] cpos] [] pos) (DB.tListVals te) (eValsL f) := by
  refine ⟨DB.pe_listVals hc h.pe hg hm hv hbase hline hs, ?_⟩
  intro G0 H0 W H ts vs env σ t env' S e Q q
  obtain ⟨⟨u, e1⟩, h1, h2⟩ := obind e
  obtain ⟨kvs, h3, h4⟩ := omap h2
  cases h4
  refine h.ok _ _ _ _ _ _ _ _ _ _ S h1 _ fun v H1 s1 S1 => ?_
  obtain ⟨G, ot, oe, s⟩ := S1
  obtain ⟨a, xs, k1, k2, k3⟩ := s.dicU (t := u) (v := v) (by simp) h3
  refine ⟨a, xs, k1, k2, fun l hl => ?_⟩
  have s' : St0 X.kw G0 H0 W G H1 ts vs _ σ ot oe := ⟨s.tmp, s.env, s.nd, s.fr, s.g0, s.gh, s.h0, s.nw, fun q hq => s.vw q (List.mem_cons_of_mem _ hq)⟩
  have S2 := OkS.pushD s' k3.vals
  exact q _ _ (s1.trans (same_upd hl)) (S2.newL (by simp [k3.length]) hl)
theorem OkS.newDicK {K : KW} {G0 H0 G H : Hp} {W : List (T × V)} {ts : List T} {vs : List V} {env : Env} {σ : St} {ot oe : List Addr} {kvs : List (Key × D)} {xs : List (Key × V)} {p : Addr} (s : St0 K G0 H0 W G H ts vs env σ ot oe) (hr : RpKs K G kvs xs) (hp : H p = none) : OkS K G0 H0 W (upd H p (.dK xs)) (.dic (pairsT kvs) :: ts) (.ref p :: vs) env σ := by
  have gp : G p = none := Same.none s.gh hp
  have ne : ∀ a u, H a = some u → a ≠ p := fun a u e z => by rw [z, hp] at e; cases e
  have all : ∀ a ∈ ot ++ oe, ∃ u, H a = some u := fun a ha => by
    rcases List.mem_append.mp ha with ha | ha
    · obtain ⟨u, e, _⟩ := s.tmp.there _ a ha; exact ⟨u, e⟩
    · obtain ⟨u, e, _⟩ := s.env.there _ a ha; exact ⟨u, e⟩
  have kp : ∀ a ∈ ot ++ oe, upd H p (.dK xs) a = H a := fun a ha => by
    obtain ⟨u, e⟩ := all a ha
    exact upd_ne (ne a u e)
  refine ⟨G, p :: ot, oe, ⟨.ref p, vs, [p], ot, rfl, ⟨p, xs, [], rfl, upd_same, rpTk_mk hr, rfl⟩, s.tmp.mono (Same.refl _) _ (fun a ha => kp a (List.mem_append_left _ ha)), rfl⟩, s.env.mono (Same.refl _) _ (fun a ha => kp a (List.mem_append_right _ ha)), ?_, fun a ha => ?_, s.g0, fun b u e => ?_, fun b u e => ?_, s.nw, fun q hq => ?_⟩
  · rw [List.cons_append]
    refine List.nodup_cons.mpr ⟨fun z => ?_, s.nd⟩
    obtain ⟨u, e⟩ := all p z
    rw [hp] at e; cases e
  · rw [List.cons_append] at ha
    rcases List.mem_cons.mp ha with e | ha
    · subst e; exact ⟨gp, Same.none s.h0 hp⟩
    · exact s.fr a ha
  · rw [upd_ne (ne b u (s.gh b u e))]; exact s.gh b u e
  · rw [upd_ne (ne b u (s.h0 b u e))]; exact s.h0 b u e
  · obtain ⟨o, h⟩ := s.vw q hq
    refine ⟨o, h.mono (Same.refl _) _ fun a ha => ?_⟩
    obtain ⟨u, e, _⟩ := h.there _ a ha
    exact upd_ne (ne a u e)
def pairsD : List D → Option (List (Key × D))
  | [] => some []
  | .tup [k, d] :: r => (keyD k).bind fun kk => (pairsD r).map ((kk, d) :: ·)
  | _ => none
def mergeD (kvs : List (Key × D)) (more : List (Key × D)) : List (Key × D) := more.foldl (fun acc kv => putD acc kv.1 kv.2) kvs
theorem pairsD_rp {K : KW} {G : Hp} : ∀ {ds : List D} {kvs : List (Key × D)} {xs : List V}, pairsD ds = some kvs → RpDs K G ds xs → ∃ (ps : List Addr) (ws : List (Key × V)), xs = ps.map V.ref ∧ Paired (fun p (kv : Key × V) => SqT K G p [L2.kV kv.1, kv.2]) ps ws ∧ RpKs K G kvs ws
  | [], kvs, xs, h, r => by cases h; exact ⟨[], [], r, .nil, rfl⟩
  | d :: ds, kvs, xs, h, ⟨v, r, h1, h2, h3⟩ => by
    subst h1
    unfold pairsD at h
    split at h
    · cases ‹_ = []›
    · rename_i k d' r' e
      cases e
      obtain ⟨kk, g1, g2⟩ := obind h
      obtain ⟨ks, g3, g4⟩ := omap g2
      subst g4
      obtain ⟨ps, ws, q1, q2, q3⟩ := pairsD_rp g3 h3
      subst q1
      obtain ⟨a, zs, z1, z2, z3⟩ := h2
      obtain ⟨kv, zr, y1, y2, w, zr2, y3, y4, y5⟩ := z3
      have y5 : zr2 = [] := y5
      subst y5 y3 y1
      have ek : kv = L2.kV kk := keyD_rp g1 y2
      subst ek
      exact ⟨a :: ps, (kk, w) :: ws, by rw [z1]; rfl, .cons (tup_sq z2) q2, ⟨w, ws, rfl, y4, q3⟩⟩
    · cases h
theorem paired_imp {α β : Type} {F F' : α → β → Prop} (h : ∀ a b, F a b → F' a b) : ∀ {xs : List α} {ys : List β}, Paired F xs ys → Paired F' xs ys
  | _, _, .nil => .nil
  | _, _, .cons r t => .cons (h _ _ r) (paired_imp h t)
theorem RpKs.merge {K : KW} {G : Hp} : ∀ {more : List (Key × D)} {ys : List (Key × V)} {kvs : List (Key × D)} {xs : List (Key × V)}, RpKs K G kvs xs → RpKs K G more ys → RpKs K G (mergeD kvs more) (mergeK xs ys)
  | [], _, _, _, h, h' => by rw [show _ = _ from h']; exact h
  | (k, d) :: more, _, _, _, h, ⟨v, r, h1, h2, h3⟩ => by
    subst h1
    have := RpKs.merge (h.put (k := k) h2) h3
    exact this
def eDictP (f : EF) : EF := fun env => (f env).bind fun r => (itemsT r.1).bind fun ds => if isLT r.1 = true then (pairsD ds).map fun kvs => (.dic (pairsT (mergeD [] kvs)), r.2) else none
theorem dt_dictP (hc : X.calm = true) (hg : Gl X "dict") (hm : X.mg "dict" = none) (h : DV X e te f) (hv : bootBuiltins "dict" = some (.type "dict") := by decide +kernel) (hs : starEach [e] X.env = (false, eval e X.env) :: starEach [] X.env := by rfl) :
    DT X (.Call (.Name "dict" p) [e] [] pos) (tCB (fun xs H Q => ∃ (a : Addr) (ps : List Addr) (kvs : List (Key × V)), xs = [.ref a] ∧ SqL X.K H a (ps.map V.ref) ∧ Paired (fun p (kv : Key × V) => SqT X.K H p [L2.kV kv.1, kv.2]) ps kvs ∧ ∀ p, H p = none → Q (.ref p) (upd H p (.dK (mergeK [] kvs)))) (tCons te tNil)) (eDictP f) := by
  refine ⟨pe_callTy (call_dictP hc) hg hm hv (pa_cons h.pe pa_nil hs) (by decide) (by decide) hs, ?_⟩
  intro G0 H0 W H ts vs env σ t env' S e Q q
  obtain ⟨⟨u, e1⟩, h1, h2⟩ := obind e
  obtain ⟨ds, h3, h4⟩ := obind h2
  by_cases hl : isLT u = true
  · rw [if_pos (show isLT (u, e1).1 = true from hl)] at h4
    obtain ⟨kvs, h5, h6⟩ := omap h4
    cases h6
    refine h.ok _ _ _ _ _ _ _ _ _ _ S h1 _ fun v H1 s1 S1 => ?_
    obtain ⟨a, xs, rfl, k1, k2, k3, S2⟩ := S1.items h3
    obtain ⟨G, ot, oe, s⟩ := S2
    obtain ⟨o1, o2, d1, d2, d3⟩ := s.tmp.split (us := ds.map T.p) (by rw [List.length_map]; exact k3)
    obtain ⟨dd, de⟩ := rpDs_of d1
    subst de
    have d3 : ot = o2 := d3
    subst d3
    obtain ⟨ps, ws, q1, q2, q3⟩ := pairsD_rp h5 dd
    subst q1
    have s' : St0 X.kw G0 H0 W G H1 ts vs _ σ ot oe := ⟨d2, s.env, s.nd, s.fr, s.g0, s.gh, s.h0, s.nw, s.vw⟩
    have q2' : Paired (fun p (kv : Key × V) => SqT X.K H1 p [L2.kV kv.1, kv.2]) ps ws := paired_imp (fun _ _ h => Same.sqT s.gh h) q2
    exact ⟨a, ps, ws, rfl, k1 hl, q2', fun l hl => q _ _ (s1.trans (same_upd hl)) (OkS.newDicK s' (RpKs.merge (show RpKs X.kw G [] [] from rfl) q3) hl)⟩
  · rw [if_neg (show ¬ isLT (u, e1).1 = true from hl)] at h4; cases h4
end
end DL
namespace DL
open PySem PySem.Spec PyProof.Rows L2
def Plain (u : HO) : Prop := ∀ o x, u ≠ .frz o x
structure SwR (G G' : Hp) : Prop where
  rd : ∀ a u, Plain u → Rd G a u → Rd G' a u
  ins : ∀ a C dx fs, G a = some (.ins C dx fs) → G' a = some (.ins C dx fs)
  tup : ∀ a xs, G a = some (.tup xs) → G' a = some (.tup xs)
  tux : ∀ a o xs, G a = some (.frz o (.tup xs)) → G' a = some (.frz o (.tup xs))
mutual
theorem NkV.sw {G G' : Hp} (e : SwR G G') : ∀ (k : NestedKey) {v : V}, NkV G k v → NkV G' k v
  | .none, _, h => h
  | .num _, _, h => h
  | .text _, _, h => h
  | .tup ks, _, ⟨a, vs, h1, h2, h3⟩ => ⟨a, vs, h1, e.rd a _ (fun _ _ z => by cases z) h2, NkVs.sw e ks h3⟩
theorem NkVs.sw {G G' : Hp} (e : SwR G G') : ∀ (ks : List NestedKey) {vs : List V}, NkVs G ks vs → NkVs G' ks vs
  | [], _, h => h
  | k :: ks, _, ⟨v, r, h1, h2, h3⟩ => ⟨v, r, h1, NkV.sw e k h2, NkVs.sw e ks h3⟩
end
section
variable {K : KW} {G G' H H' : Hp}
mutual
theorem RpD.sw (e : SwR G G') : ∀ (d : D) {v : V}, RpD K G d v → RpD K G' d v
  | .non, _, h => h
  | .bl _, _, h => h
  | .int _, _, h => h
  | .str _, _, h => h
  | .lst ds, _, ⟨a, vs, h1, h2, h3⟩ => ⟨a, vs, h1, e.rd a _ (fun _ _ z => by cases z) h2, RpDs.sw e ds h3⟩
  | .tup ds, _, ⟨a, vs, h1, h2, h3⟩ => ⟨a, vs, h1, e.tup _ _ h2, RpDs.sw e ds h3⟩
  | .dic kvs, _, ⟨a, ws, h1, h2, h3⟩ => ⟨a, ws, h1, e.rd a _ (fun _ _ z => by cases z) h2, RpKs.sw e kvs h3⟩
  | .dit kvs, _, ⟨a, ws, h1, h2, h3⟩ => ⟨a, ws, h1, e.rd a _ (fun _ _ z => by cases z) h2, RpKt.sw e kvs h3⟩
  | .obj n fs, _, ⟨a, C, dx, ws, h1, h2, h3, h4⟩ => ⟨a, C, dx, ws, h1, h2, e.ins _ _ _ _ h3, RpKf.sw e fs h4⟩
  | .al _, _, h => h
  | .tux ds, _, ⟨a, o, vs, h1, h2, h4, h3⟩ => ⟨a, o, vs, h1, e.tux _ _ _ h2, h4, RpDs.sw e ds h3⟩
  | .din kvs, _, ⟨a, ws, h1, h2, h3⟩ => ⟨a, ws, h1, e.rd a _ (fun _ _ z => by cases z) h2, RpKn.sw e kvs h3⟩
theorem RpDs.sw (e : SwR G G') : ∀ (ds : List D) {vs : List V}, RpDs K G ds vs → RpDs K G' ds vs
  | [], _, h => h
  | d :: ds, _, ⟨v, r, h1, h2, h3⟩ => ⟨v, r, h1, RpD.sw e d h2, RpDs.sw e ds h3⟩
theorem RpKs.sw (e : SwR G G') : ∀ (ds : List (Key × D)) {vs : List (Key × V)}, RpKs K G ds vs → RpKs K G' ds vs
  | [], _, h => h
  | (k, d) :: ds, _, ⟨v, r, h1, h2, h3⟩ => ⟨v, r, h1, RpD.sw e d h2, RpKs.sw e ds h3⟩
theorem RpKt.sw (e : SwR G G') : ∀ (ds : List (List Key × D)) {vs : List (List Key × V)}, RpKt K G ds vs → RpKt K G' ds vs
  | [], _, h => h
  | (k, d) :: ds, _, ⟨v, r, h1, h2, h3⟩ => ⟨v, r, h1, RpD.sw e d h2, RpKt.sw e ds h3⟩
theorem RpKf.sw (e : SwR G G') : ∀ (ds : List (Str × D)) {vs : List (Str × V)}, RpKf K G ds vs → RpKf K G' ds vs
  | [], _, h => h
  | (k, d) :: ds, _, ⟨v, r, h1, h2, h3⟩ => ⟨v, r, h1, RpD.sw e d h2, RpKf.sw e ds h3⟩
theorem RpKn.sw (e : SwR G G') : ∀ (ds : List (NestedKey × D)) {vs : List (NestedKey × Addr × V)}, RpKn K G ds vs → RpKn K G' ds vs
  | [], _, h => h
  | (k, d) :: ds, _, ⟨b, v, r, h1, h0, h4, h2, h3⟩ => ⟨b, v, r, h1, h0, NkV.sw e k h4, RpD.sw e d h2, RpKn.sw e ds h3⟩
end
mutual
theorem Rp.sw (e : SwR G G') : ∀ (t : T) {v : V} {o : List Addr}, (∀ a ∈ o, H' a = H a) → Rp K G H t v o → Rp K G' H' t v o
  | .p d, _, _, _, ⟨h1, h2⟩ => ⟨RpD.sw e d h1, h2⟩
  | .lst ts, _, _, k, ⟨a, vs, o', h1, h2, h3, h4⟩ => ⟨a, vs, o', h1, by rw [k a (by rw [h4]; simp)]; exact h2, RpTs.sw e ts (fun b hb => k b (by rw [h4]; simp [hb])) h3, h4⟩
  | .tup ts, _, _, k, ⟨a, vs, h1, h2, h3⟩ => ⟨a, vs, h1, e.tup _ _ h2, RpTs.sw e ts k h3⟩
  | .dic kvs, _, _, k, ⟨a, ws, o', h1, h2, h3, h4⟩ => ⟨a, ws, o', h1, by rw [k a (by rw [h4]; simp)]; exact h2, RpTk.sw e kvs (fun b hb => k b (by rw [h4]; simp [hb])) h3, h4⟩
  | .dit kvs, _, _, k, ⟨a, ws, o', h1, h2, h3, h4⟩ => ⟨a, ws, o', h1, by rw [k a (by rw [h4]; simp)]; exact h2, RpTt.sw e kvs (fun b hb => k b (by rw [h4]; simp [hb])) h3, h4⟩
  | .obj n fs, _, _, k, ⟨a, C, dx, ws, o', h1, h0, h2, h3, h4⟩ => ⟨a, C, dx, ws, o', h1, h0, by rw [k a (by rw [h4]; simp)]; exact h2, RpTf.sw e fs (fun b hb => k b (by rw [h4]; simp [hb])) h3, h4⟩
  | .box a t, _, _, k, ⟨h1, h2⟩ => ⟨h1, Rp.sw e t k h2⟩
  | .al a, _, _, _, h => h
  | .din kvs, _, _, k, ⟨a, ws, h1, h2, h3, h4⟩ => ⟨a, ws, h1, by rw [k a (by rw [h4]; simp)]; exact h2, RpKn.sw e kvs h3, h4⟩
theorem RpTs.sw (e : SwR G G') : ∀ (ts : List T) {vs : List V} {o : List Addr}, (∀ a ∈ o, H' a = H a) → RpTs K G H ts vs o → RpTs K G' H' ts vs o
  | [], _, _, _, h => h
  | t :: ts, _, _, k, ⟨v, r, o1, o2, h1, h2, h3, h4⟩ => ⟨v, r, o1, o2, h1, Rp.sw e t (fun b hb => k b (by rw [h4]; simp [hb])) h2, RpTs.sw e ts (fun b hb => k b (by rw [h4]; simp [hb])) h3, h4⟩
theorem RpTk.sw (e : SwR G G') : ∀ (ts : List (Key × T)) {vs : List (Key × V)} {o : List Addr}, (∀ a ∈ o, H' a = H a) → RpTk K G H ts vs o → RpTk K G' H' ts vs o
  | [], _, _, _, h => h
  | (_, t) :: ts, _, _, k, ⟨v, r, o1, o2, h1, h2, h3, h4⟩ => ⟨v, r, o1, o2, h1, Rp.sw e t (fun b hb => k b (by rw [h4]; simp [hb])) h2, RpTk.sw e ts (fun b hb => k b (by rw [h4]; simp [hb])) h3, h4⟩
theorem RpTt.sw (e : SwR G G') : ∀ (ts : List (List Key × T)) {vs : List (List Key × V)} {o : List Addr}, (∀ a ∈ o, H' a = H a) → RpTt K G H ts vs o → RpTt K G' H' ts vs o
  | [], _, _, _, h => h
  | (_, t) :: ts, _, _, k, ⟨v, r, o1, o2, h1, h2, h3, h4⟩ => ⟨v, r, o1, o2, h1, Rp.sw e t (fun b hb => k b (by rw [h4]; simp [hb])) h2, RpTt.sw e ts (fun b hb => k b (by rw [h4]; simp [hb])) h3, h4⟩
theorem RpTf.sw (e : SwR G G') : ∀ (ts : List (Str × T)) {vs : List (Str × V)} {o : List Addr}, (∀ a ∈ o, H' a = H a) → RpTf K G H ts vs o → RpTf K G' H' ts vs o
  | [], _, _, _, h => h
  | (_, t) :: ts, _, _, k, ⟨v, r, o1, o2, h1, h2, h3, h4⟩ => ⟨v, r, o1, o2, h1, Rp.sw e t (fun b hb => k b (by rw [h4]; simp [hb])) h2, RpTf.sw e ts (fun b hb => k b (by rw [h4]; simp [hb])) h3, h4⟩
end
theorem RpE.sw (e : SwR G G') : ∀ (es : Env) {σ : St} {o : List Addr}, (∀ a ∈ o, H' a = H a) → RpE K G H es σ o → RpE K G' H' es σ o
  | [], _, _, _, h => h
  | none :: es, _, _, k, ⟨x, r, h1, h2⟩ => ⟨x, r, h1, RpE.sw e es k h2⟩
  | some t :: es, _, _, k, ⟨v, r, o1, o2, h1, h2, h3, h4⟩ => ⟨v, r, o1, o2, h1, Rp.sw e t (fun b hb => k b (by rw [h4]; simp [hb])) h2, RpE.sw e es (fun b hb => k b (by rw [h4]; simp [hb])) h3, h4⟩
end
def lk (G : Hp) (d : Addr) (u : HO) : Hp := fun a => if a = d then (match G d with | some _ => some u | none => none) else G a
theorem lk_ne {G : Hp} {d a : Addr} {u : HO} (h : a ≠ d) : lk G d u a = G a := if_neg h
theorem lk_at {G : Hp} {d : Addr} {u x : HO} (h : G d = some x) : lk G d u d = some u := by unfold lk; rw [if_pos rfl, h]
theorem lk_no {G : Hp} {d : Addr} {u : HO} (h : G d = none) : lk G d u d = none := by unfold lk; rw [if_pos rfl, h]
theorem lk_same {G H : Hp} {d : Addr} {u x : HO} (e : Same G H) (hd : H d = some x) : Same (lk G d u) (lk H d u) := fun a y h => by
  by_cases c : a = d
  · subst c
    cases g : G a with
    | none => rw [lk_no g] at h; cases h
    | some z => rw [lk_at g] at h; rw [lk_at hd]; exact h
  · rw [lk_ne c] at h ⊢; exact e a y h
theorem lk_upd {H : Hp} {d : Addr} {u x : HO} (hd : H d = some x) : lk H d u = upd H d u := by
  funext a
  by_cases c : a = d
  · subst c; rw [lk_at hd, upd_same]
  · rw [lk_ne c, upd_ne c]
theorem lk_none {G : Hp} {d a : Addr} {u : HO} (h : G a = none) : lk G d u a = none := by
  by_cases c : a = d
  · subst c; exact lk_no h
  · rw [lk_ne c]; exact h
theorem SwR.lk {G : Hp} {d : Addr} {x u : HO} (gd : G d = some x) (hxu : ∀ y, Plain y → (x = y ∨ ∃ o, x = .frz o y) → (u = y ∨ ∃ o, u = .frz o y)) (hi : ∀ C dx fs, x ≠ .ins C dx fs) (hxt : ∀ xs, x ≠ .tup xs) (hxf : ∀ o xs, x ≠ .frz o (.tup xs) := by intro _ _ h; cases h) : SwR G (lk G d u) := ⟨fun a y hp h => by
    by_cases c : a = d
    · subst c
      have : x = y ∨ ∃ o, x = .frz o y := by
        rcases h with h | ⟨o, h⟩
        · rw [gd] at h; exact .inl (Option.some.inj h)
        · rw [gd] at h; exact .inr ⟨o, Option.some.inj h⟩
      rcases hxu y hp this with q | ⟨o, q⟩
      · exact .inl (by rw [lk_at gd, q])
      · exact .inr ⟨o, by rw [lk_at gd, q]⟩
    · rcases h with h | ⟨o, h⟩
      · exact .inl (by rw [lk_ne c]; exact h)
      · exact .inr ⟨o, by rw [lk_ne c]; exact h⟩, fun a C dx fs h => by
    have : a ≠ d := fun z => by subst z; rw [gd] at h; exact hi _ _ _ (Option.some.inj h)
    rw [lk_ne this]; exact h, fun a xs h => by
    have : a ≠ d := fun z => by subst z; rw [gd] at h; exact hxt _ (Option.some.inj h)
    rw [lk_ne this]; exact h, fun a o xs h => by
    have : a ≠ d := fun z => by subst z; rw [gd] at h; exact hxf _ _ (Option.some.inj h)
    rw [lk_ne this]; exact h⟩
theorem OkS.swap {K : KW} {G0 H0 H : Hp} {ts : List T} {vs : List V} {env : Env} {σ : St} {d : Addr} {x u : HO} (S : OkS K G0 H0 [] H ts vs env σ) (hx : ∀ G, Same G0 G → Same G H → G d = some x) (hd : H d = some x)
    (hxu : ∀ y, Plain y → (x = y ∨ ∃ o, x = .frz o y) → (u = y ∨ ∃ o, u = .frz o y)) (hi : ∀ C dx fs, x ≠ .ins C dx fs) (hxt : ∀ xs, x ≠ .tup xs) (hxf : ∀ o xs, x ≠ .frz o (.tup xs) := by intro _ _ h; cases h) : OkS K (lk G0 d u) (lk H0 d u) [] (upd H d u) ts vs env σ := by
  obtain ⟨G, ot, oe, s⟩ := S
  have gd : G d = some x := hx G s.g0 s.gh
  have sw : SwR G (lk G d u) := SwR.lk gd hxu hi hxt hxf
  have ne : ∀ a ∈ ot ++ oe, a ≠ d := fun a ha z => by
    have := (s.fr a ha).1
    rw [z, gd] at this; cases this
  have kp : ∀ a ∈ ot ++ oe, upd H d u a = H a := fun a ha => upd_ne (ne a ha)
  refine ⟨lk G d u, ot, oe, s.tmp.sw sw _ (fun a ha => kp a (List.mem_append_left _ ha)), s.env.sw sw _ (fun a ha => kp a (List.mem_append_right _ ha)), s.nd, fun a ha => ⟨by rw [lk_ne (ne a ha)]; exact (s.fr a ha).1, by rw [lk_ne (ne a ha)]; exact (s.fr a ha).2⟩, lk_same s.g0 gd, ?_, ?_, fun a o e => ?_, fun q hq => ?_⟩
  · rw [← lk_upd hd]; exact lk_same s.gh hd
  · rw [← lk_upd hd]; exact lk_same s.h0 hd
  · by_cases c : a = d
    · subst c
      rcases s.nw a x gd with z | z | ⟨xs, z⟩ | ⟨o', xs, z⟩
      · cases g : G0 a with
        | none => exact absurd g z
        | some y => exact .inl (by rw [lk_at g]; simp)
      · exact .inr (.inl (lk_none z))
      · exact absurd z (hxt xs)
      · exact absurd z (hxf o' xs)
    · rw [lk_ne c] at e ⊢
      rw [lk_ne c]
      exact s.nw a o e
  · cases hq
theorem lk_lk {G : Hp} {d : Addr} {u x : HO} (h : G d = some x) : lk (lk G d u) d x = G := by
  funext a
  by_cases c : a = d
  · subst c; rw [lk_at (lk_at h), h]
  · rw [lk_ne c, lk_ne c]
theorem lk_lk0 {G : Hp} {d : Addr} {u x : HO} (h : ∀ y, G d = some y → y = x) : lk (lk G d u) d x = G := by
  cases g : G d with
  | some y => have := h y g; subst this; exact lk_lk g
  | none =>
    funext a
    by_cases c : a = d
    · subst c; rw [lk_no (lk_no g), g]
    · rw [lk_ne c, lk_ne c]
def forR (J : It) (g : TG) (tb : TS) (D : Ends) (σ : St) (H1 : Hp) : Prop := ∃ W : Nat → Nat → St → Hp → Prop, (∃ m, W 0 m σ H1) ∧ ∀ i m σ H, W i m σ H →
  (J.stop i H ∧ D.nx σ H) ∨ (J.go i H ∧ ∃ N : St → Hp → Prop, (∀ σ' H', N σ' H' → ∃ m', m' < m ∧ W (i + 1) m' σ' H') ∧ ∀ x H', J.yld i H x H' → g x σ H' fun σ2 H2 => tb { D with nx := N, ct := N, bk := D.nx } σ2 H2)
section
variable {K : KW} {G0 H0 G1 H H1 : Hp} {ts : List T} {vs : List V} {σ : St}
theorem for_run {g : TG} {G : GF} {tb : TS} {F : SF} {sl sl2 : List Nat} {J : It} {ds : List D} {e1 env' : Env} {fl : Fl} (hg : EvG K g G sl) (hb : EvS K tb F sl2) (I : ItOk K G1 J ds) (S1 : OkS K G1 H0 [] H1 ts vs e1 σ) (g2 : loopD G F ds e1 = some (fl, env')) {D : Ends} (q : Post K G1 H0 ts vs D fl env' (sl ++ sl2) σ) : forR J g tb D σ H1 := by
  refine ⟨fun i m σ2 H => m = ds.length - i ∧ i ≤ ds.length ∧ Dif (sl ++ sl2) σ σ2 ∧ ∃ env, OkS K G1 H0 [] H ts vs env σ2 ∧ loopD G F (ds.drop i) env = some (fl, env'), ⟨ds.length, by simp, Nat.zero_le _, .rfl', e1, S1, by simpa using g2⟩, ?_⟩
  rintro i m σ2 H2 ⟨rfl, hle, df, env2, S2, hl⟩
  by_cases hlt : i < ds.length
  · refine .inr ⟨I.go i H2 S2.same hlt, fun σ' H' => i + 1 ≤ ds.length ∧ Dif (sl ++ sl2) σ σ' ∧ ∃ env, OkS K G1 H0 [] H' ts vs env σ' ∧ loopD G F (ds.drop (i + 1)) env = some (fl, env'), fun σ' H' ⟨h1, h2⟩ => ⟨ds.length - (i + 1), by omega, rfl, h1, h2⟩, fun x H3 y => ?_⟩
    obtain ⟨s3, S3⟩ := I.item S2 (List.getElem?_eq_getElem hlt) y
    rw [List.drop_eq_getElem_cons hlt] at hl
    obtain ⟨e2, l1, l2⟩ := obind hl
    obtain ⟨⟨fl2, e3⟩, l3, l4⟩ := obind l2
    refine hg _ _ _ _ _ _ _ _ _ _ _ S3 l1 _ fun σ' S' f1 => ?_
    refine hb _ _ _ _ _ _ _ _ _ S' l3 _ ?_
    cases fl2 with
    | nx => exact fun H' σ4 S4 f2 => ⟨hlt, df.two (f1.tr f2), e3, S4, l4⟩
    | ct => exact fun H' σ4 S4 f2 => ⟨hlt, df.two (f1.tr f2), e3, S4, l4⟩
    | bk => cases l4; exact fun H' σ4 S4 f2 => q H' σ4 S4 (df.two (f1.tr f2))
    | rt t => cases l4; exact fun v H' σ' S4 f2 => q v H' σ' S4 (df.two (f1.tr f2))
  · have hi' : i = ds.length := by omega
    subst hi'
    rw [List.drop_length] at hl
    cases hl
    exact .inl ⟨I.stop H2 S2.same, q H2 σ2 S2 df⟩
end
structure ItD (K : KW) (it : Addr → Obj → List (Key × V) → It) (mk : Key × D → D) : Prop where
  ok : ∀ {G : Hp} {a : Addr} {o : Obj} {kvs : List (Key × D)} {xs : List (Key × V)}, G a = some (.frz o (.dK xs)) → RpKs K G kvs xs → ItOk K G (it a o xs) (kvs.map mk)
theorem RpKs.get {K : KW} {G : Hp} : ∀ {kvs : List (Key × D)} {xs : List (Key × V)}, RpKs K G kvs xs → ∀ (i : Nat) (k : Key) (d : D), kvs[i]? = some (k, d) → ∃ v, xs[i]? = some (k, v) ∧ RpD K G d v
  | [], _, _, i, _, _, e => by simp at e
  | (k, d) :: kvs, _, ⟨v, r, h1, h2, h3⟩, 0, _, _, e => by
    simp at e; obtain ⟨rfl, rfl⟩ := e; subst h1; exact ⟨v, rfl, h2⟩
  | (k, d) :: kvs, _, ⟨v, r, h1, h2, h3⟩, i + 1, k', d', e => by
    subst h1
    obtain ⟨v', f1, f2⟩ := RpKs.get h3 i k' d' (by simpa using e)
    exact ⟨v', by simpa using f1, f2⟩
theorem RpKs.len {K : KW} {G : Hp} {kvs : List (Key × D)} {xs : List (Key × V)} (h : RpKs K G kvs xs) : xs.length = kvs.length := by
  have := congrArg List.length h.keys
  simpa using this
theorem itD_keys {K : KW} : ItD K Itk (fun kv => kD kv.1) where
  ok := fun {G a o kvs xs} h r => {
    go := fun i H s hi => ⟨s _ _ h, by rw [r.len]; simpa using hi⟩
    stop := fun H s => ⟨s _ _ h, by rw [r.len, List.length_map]; exact Nat.le_refl _⟩
    yld := fun i H x H' d s hd y => by
      obtain ⟨e, k, v, h1, h2⟩ := y
      rw [List.getElem?_map] at hd
      cases hk : kvs[i]? with
      | none => rw [hk] at hd; cases hd
      | some kd =>
        rw [hk] at hd
        cases hd
        obtain ⟨v', f1, f2⟩ := r.get i kd.1 kd.2 hk
        rw [h1] at f1; cases f1
        exact .inl ⟨e, by rw [h2]; exact kD_rp _⟩ }
def iDic (mk : Key × D → D) (f : EF) : IF := fun env => (f env).bind fun r => match r.1 with
  | .p (.dic kvs) => some (kvs.map mk, r.2)
  | _ => none
def tDic (wi : TI) (g : TG) (tb : TS) : TS := fun D σ H => tFor wi g tb D σ H ∨ tLock (tFor wi g tb) D σ H
theorem Post.imp {K : KW} {G0 H0 G0' H0' : Hp} {ts : List T} {vs : List V} {D D' : Ends} {fl : Fl} {env' : Env} {sl : List Nat} {σ : St} (q : Post K G0 H0 ts vs D fl env' sl σ)
    (h : ∀ (ts' : List T) (vs' : List V) H' σ', OkS K G0' H0' [] H' ts' vs' env' σ' → ∃ H'', OkS K G0 H0 [] H'' ts' vs' env' σ' ∧ (D.nx σ' H'' → D'.nx σ' H') ∧ (D.bk σ' H'' → D'.bk σ' H') ∧ (D.ct σ' H'' → D'.ct σ' H') ∧ (∀ v, D.rt v H'' → D'.rt v H')) : Post K G0' H0' ts vs D' fl env' sl σ := by
  cases fl with
  | nx => intro H' σ' S f; obtain ⟨H'', S', a, b, c, d⟩ := h _ _ _ _ S; exact a (q H'' σ' S' f)
  | bk => intro H' σ' S f; obtain ⟨H'', S', a, b, c, d⟩ := h _ _ _ _ S; exact b (q H'' σ' S' f)
  | ct => intro H' σ' S f; obtain ⟨H'', S', a, b, c, d⟩ := h _ _ _ _ S; exact c (q H'' σ' S' f)
  | rt t => intro v H' σ' S f; obtain ⟨H'', S', a, b, c, d⟩ := h _ _ _ _ S; exact d v (q v H'' σ' S' f)
theorem ds_forD {X : Cx} {tg iter : Expr} {body : List Stmt} {wi : TI} {it : Addr → Obj → List (Key × V) → It} {mk : Key × D → D} {f : EF} {te : TE} {g : TG} {G : GF} {tb : TS} {F : SF} {pos : Pos} {sl sl2 : List Nat} (hp : PassesOwn (model X.prog X.w) X.A X.env X.xe) (hc : X.calm = true) (hi : PI X tg iter wi) (hI : ItD X.kw it mk)
    (hw : ∀ (σ : St) (H : Hp) (R : It → Hp → Prop), te σ H (fun x H1 => ∃ d o kvs, x = .ref d ∧ H1 d = some (.frz o (.dK kvs)) ∧ R (it d o kvs) H1) → wi σ H R)
    (ht : ∀ (G0 H0 H : Hp) (ts : List T) (vs : List V) (env : Env) (σ : St) (t : T) (env' : Env), OkS X.kw G0 H0 [] H ts vs env σ → f env = some (t, env') → ∃ v, OkS X.kw G0 H0 [] H (t :: ts) (v :: vs) env' σ ∧ ∀ (H' : Hp) (Q : VK), Q v H' → te σ H' Q)
    (hg : DG X tg g G sl) (hb : DSs X body tb F sl2)
    (hs : ∀ x, foldedSetIterable iter X.env x = pure x := by intro _; rfl) : DS X (.For tg iter body [] pos) (tDic wi g tb) (sFor (iDic mk f) G F) (sl ++ sl2) := by
  have ps0 := ps_for (tb := tb) hp hc hi hg.pg hb.ps (pos := pos) hs
  refine ⟨⟨fun pins s σ H D I hh => ?_⟩, ?_⟩
  · rcases hh with hh | hh
    · exact ps0.run pins s σ H D I hh
    · exact (ps_lock ps0).run pins s σ H D I hh
  intro G0 H0 H ts vs env σ fl env' S e D q
  obtain ⟨⟨ds, e1⟩, g1, g2⟩ := obind e
  obtain ⟨⟨t, e2⟩, g3, g4⟩ := obind g1
  dsimp only at g4
  split at g4
  · rename_i kvs
    cases g4
    obtain ⟨v, S1, hq⟩ := ht _ _ _ _ _ _ _ _ _ S g3
    obtain ⟨G1, gst, sG, ⟨a, xs, ev, hrd, hks⟩, S2⟩ := S1.fixTop
    subst ev
    rcases hrd with hd | ⟨o, hd⟩
    · -- laid
      have hH : H a = some (.dK xs) := sG _ _ hd
      refine .inr ⟨a, .dK xs, hH, by simp [Mut], fun od => ?_⟩
      refine hw _ _ _ (hq _ _ ⟨a, od, xs, rfl, upd_same, ?_⟩)
      have hxu : ∀ y, Plain y → (HO.dK xs = y ∨ ∃ o, HO.dK xs = .frz o y) → (HO.frz od (.dK xs) = y ∨ ∃ o, HO.frz od (.dK xs) = .frz o y) := fun y hp h => by
        rcases h with h | ⟨o, h⟩
        · exact .inr ⟨od, by rw [h]⟩
        · cases h
      have h00 : ∀ y, H0 a = some y → y = .dK xs := fun y hy => by
        obtain ⟨G, ot, oe, s⟩ := S2
        have := s.h0 a y hy
        rw [hH] at this; cases this; rfl
      have S3 := S2.swap (d := a) (x := .dK xs) (u := .frz od (.dK xs)) (fun G h1 h2 => h1 _ _ hd) hH hxu (fun _ _ _ h => by cases h) (fun _ h => by cases h)
      have sw : SwR G1 (lk G1 a (.frz od (.dK xs))) := SwR.lk hd hxu (fun _ _ _ h => by cases h) (fun _ h => by cases h)
      refine for_run (G1 := lk G1 a (.frz od (.dK xs))) (H0 := lk H0 a (.frz od (.dK xs))) hg.ok hb.ok (hI.ok (lk_at hd) (RpKs.sw sw _ hks)) S3 g2 ?_
      refine q.imp fun ts' vs' H' σ' S4 => ?_
      have h4 : H' a = some (.frz od (.dK xs)) := S4.same _ _ (lk_at hd)
      have S5 := S4.swap (d := a) (x := .frz od (.dK xs)) (u := .dK xs) (fun G h1 h2 => h1 _ _ (lk_at hd)) h4 (fun y hp h => by
        rcases h with h | ⟨o, h⟩
        · exact absurd h.symm (hp _ _)
        · cases h; exact .inl rfl) (fun _ _ _ h => by cases h) (fun _ h => by cases h)
      rw [lk_lk hd, lk_lk0 h00] at S5
      exact ⟨upd H' a (.dK xs), S5.back gst, fun h => ⟨h4, h⟩, fun h => ⟨h4, h⟩, fun h => ⟨h4, h⟩, fun v h => ⟨h4, h⟩⟩
    · have hH : H a = some (.frz o (.dK xs)) := sG _ _ hd
      refine .inl (hw _ _ _ (hq _ _ ⟨a, o, xs, rfl, hH, ?_⟩))
      refine for_run hg.ok hb.ok (hI.ok hd hks) S2 g2 ?_
      exact q.imp fun ts' vs' H' σ' S4 => ⟨H', S4.back gst, id, id, id, fun _ => id⟩
  · cases g4
theorem ev_vt {X : Cx} {i : Nat} (G0 H0 H : Hp) (ts : List T) (vs : List V) (env : Env) (σ : St) (t : T) (env' : Env) (S : OkS X.kw G0 H0 [] H ts vs env σ) (g : eV i env = some (t, env')) : ∃ v, OkS X.kw G0 H0 [] H (t :: ts) (v :: vs) env' σ ∧ ∀ (H' : Hp) (Q : VK), Q v H' → tVar i σ H' Q := by
  obtain ⟨v, hv, S1⟩ := ev_v (K := X.kw) (i := i) _ _ _ _ _ _ _ _ _ _ S g (fun v H' => OkS X.kw G0 H0 [] H' (t :: ts) (v :: vs) env' σ) (fun v H' e S => S)
  exact ⟨v, S1, fun H' Q q => ⟨v, hv, q⟩⟩
def iKy (f : EF) : IF := iDic (fun kv => kD kv.1) f
section
variable {X : Cx} {tg : Expr} {body : List Stmt} {g : TG} {G : GF} {tb : TS} {F : SF} {pos npos apos cpos tpos : Pos} {sl sl2 : List Nat} {x : Str}
theorem ds_forKeys (i : Nat) (hp : PassesOwn (model X.prog X.w) X.A X.env X.xe) (hc : X.calm = true) (hg : DG X tg g G sl) (hb : DSs X body tb F sl2)
    (hN : X.N[i]? = some x := by rfl) (hv : Vis X.env.scope x := by first | exact Or.inl rfl | exact Or.inr (Or.inl rfl) | exact Or.inr (Or.inr rfl)) (hd : (x == ("__debug__" : Str)) = false := by decide) (hcd : (x == ("__classdict__" : Str)) = false := by decide)
    (hs : ∀ z, foldedSetIterable (.Name x npos) X.env z = pure z := by intro _; rfl) : DS X (.For tg (.Name x npos) body [] pos) (tDic (iKeys (tVar i)) g tb) (sFor (iKy (eV i)) G F) (sl ++ sl2) :=
  ds_forD hp hc (pi_keys (pe_var hN hv hd hcd)) itD_keys (te := tVar i) (fun σ H R ⟨v, hv, d, o, kvs, e, h, r⟩ => ⟨v, hv, d, o, e, .inl ⟨kvs, h, r⟩⟩) ev_vt hg hb hs
end
end DL
namespace DL
open PySem PySem.Spec PyProof.Rows L2
section
variable {X : Cx} {e o k : Expr} {te to tk : TE} {f fk : EF} {fo : PF} {i : Nat} {pos cpos apos ipos tpos : Pos}
def sExtP (i : Nat) (fo : PF) (f : EF) : SF := fun env => (fo env).bind fun r => (atP r.2 i r.1).bind fun t0 => match unb t0 with
  | .lst _ => (f r.2).bind fun s => match s.1 with
    | .lst us2 => (atP s.2 i r.1).bind fun t => match unb t with
      | .lst us => if us.length + us2.length < 16000000 then some (.nx, putP s.2 i r.1 (reb t (.lst (us ++ us2)))) else none
      | _ => none
    | _ => none
  | _ => none
theorem ds_extP (ho : DP X o to i fo) (h : DT X e te f) (hb : attributeBase o "extend" X.env (eval o X.env) = eval o X.env := by rfl)
    (hse : starEach [e] X.env = (false, eval e X.env) :: starEach [] X.env := by rfl)
    (hfew : ((backTo cpos (starEach [e] X.env)).all (fun x => !x.1) && (backToKw cpos (keywordEach [] X.env)).all (fun x => x.1.isSome)
      && decide ([e].length + ([] : List Keyword).length + (if ([] : List Keyword).isEmpty then 0 else 1) < 30)) = true := by rfl)
    (hline : (apos.endLine == cpos.line) = true := by rfl)
    (hs : swapsWith (.Call (.Attribute o "extend" apos) [e] [] cpos) none pos.line X.env = pure false := by rfl) :
    DS X (.Expr (.Call (.Attribute o "extend" apos) [e] [] cpos) pos) (tDrop (tBM X.K "list" rExtend to (tCons te tNil))) (sExtP i fo f) [] := by
  refine ⟨ps_expr (pe_bm PySem.F.plainAttrs_list PySem.F.slot_list_extend PySem.F.type_list_extend mt_extend ho.pe (pa_cons h.pe pa_nil hse) hb hfew hline hse rfl) hs, ?_⟩
  intro G0 H0 H ts vs env σ fl env' S g D q
  obtain ⟨⟨P, e1⟩, g1, g2⟩ := obind g
  obtain ⟨t0, g3, g4⟩ := obind g2
  dsimp only at g4
  split at g4
  · rename_i us0 hu0
    obtain ⟨⟨y, e2⟩, g5, g6⟩ := obind g4
    obtain ⟨us2, rfl⟩ : ∃ us2, y = .lst us2 := by
      cases y with
      | lst u => exact ⟨u, rfl⟩
      | _ => cases g6
    · obtain ⟨t, g7, g8⟩ := obind (show (atP e2 i P).bind _ = _ from g6)
      dsimp only at g8
      split at g8
      · rename_i us hu
        split at g8
        · rename_i hl
          cases g8
          refine ho.ok _ _ _ _ _ _ _ _ _ _ S g1 _ fun v w H1 s1 S1 hv hc => ?_
          obtain ⟨tt0, k1, k2⟩ := atP_eq g3
          obtain ⟨G, o1, r, sG⟩ := S1.at' k1 k2 hv hc
          have r := r.unb
          rw [hu0] at r
          obtain ⟨a, xs0, o', h1, h2, _⟩ := r
          subst h1
          refine ⟨.inl ⟨rfl, xs0, .inl (.inl h2)⟩, ?_⟩
          refine h.ok _ _ _ _ _ _ _ _ _ _ S1 g5 _ fun x H2 s2 S2 => ?_
          obtain ⟨tt, k3, k4⟩ := atP_eq g7
          obtain ⟨G2, p1, p2, r1, r2, nd, sG2, fr, wr⟩ := OkS.wr (es := [.lst us2]) (ws := [x]) S2 rfl k3 k4 hv (hc.same s2)
          have ru := r1.unb
          rw [hu] at ru
          obtain ⟨a', xs, o2, h1', h2', h3', h4'⟩ := ru
          cases h1'
          subst h4'
          obtain ⟨x', r', q1, q2, q3, q4, q5, q6⟩ := r2
          cases q3
          obtain ⟨e7, e8⟩ := q5
          cases e7
          subst e8
          rw [List.append_nil] at q6
          subst q6
          obtain ⟨b, zs, o3, f1, f2, f3, f4⟩ := q4
          subst f1; subst f4
          have nd' : (a :: (o2 ++ b :: o3)).Nodup := nd
          have na : a ∉ o2 ++ b :: o3 := (List.nodup_cons.mp nd').1
          refine ⟨a, b, xs, zs, rfl, rfl, h2', f2, by rw [h3'.len, f3.len, sizeLine_eq]; omega, ?_⟩
          have r3 := (h3'.append f3).mono (Same.refl G2) (H' := upd H2 a (.lst (xs ++ zs))) _ (wN fun hm => na (by
            rcases List.mem_append.mp hm with hm | hm
            · simp [hm]
            · simp [hm]))
          have S3 := wr a (.lst (xs ++ zs)) (reb t (.lst (us ++ us2))) [] [] (a :: (o2 ++ o3)) [] [b] (by simp) (r1.reb ⟨a, _, _, rfl, upd_same, r3, rfl⟩) ⟨rfl, rfl⟩ (by
            refine List.perm_iff_count.mpr fun x => ?_
            simp only [List.count_append, List.count_cons, List.count_nil]; omega)
          rw [← putP_eq k3] at S3
          exact q _ _ S3 .rfl'
        · cases g8
      · cases g8
  · cases g4
theorem ds_putPX (hu : X.A.units + 1 < cLine) (ho : DP X o to i fo) (hk : DT X k tk fk) (h : DX X e te f) (hs : swapsWith e (some (.Subscript o k ipos)) pos.line X.env = pure false := by rfl) : DS X (.Assign [.Subscript o k ipos] e pos) (sDPut to tk te) (sPutP i fo fk f) [] := by
  refine ⟨ps_dput hu ho.pe hk.pe h.pe hs, ?_⟩
  intro G0 H0 H ts vs env σ fl env' S g D q
  obtain ⟨⟨y, e1⟩, g1, g2⟩ := obind g
  obtain ⟨⟨P, e2⟩, g3, g4⟩ := obind g2
  obtain ⟨⟨z, e3⟩, g5, g6⟩ := obind g4
  obtain ⟨kk, g7, g8⟩ := obind g6
  obtain ⟨t, g9, g10⟩ := obind g8
  dsimp only at g10
  split at g10
  · rename_i kvs hun
    split at g10
    · rename_i hl
      cases g10
      cases z with
      | p kd =>
        refine h.ok _ _ _ _ _ _ _ _ _ S g1 _ fun x H1 S1 => ?_
        refine ho.ok _ _ _ _ _ _ _ _ _ _ S1 g3 _ fun v w H2 s2 S2 hv hc => ?_
        refine hk.ok _ _ _ _ _ _ _ _ _ _ S2 g5 _ fun kx H3 s3 S3 => ?_
        have ek : kx = L2.kV kk := keyD_rp (show keyD kd = some kk from g7) S3.top
        obtain ⟨tt, k3, k4⟩ := atP_eq g9
        obtain ⟨G2, p1, p2, r1, r2, nd, sG2, fr, wr⟩ := OkS.wr (es := [y]) (ws := [x]) S3.pop rfl k3 k4 hv (hc.same s3)
        have ru := r1.unb
        rw [hun] at ru
        obtain ⟨a, xs, o2, h1, h2, h3, h4⟩ := ru
        subst h1; subst h4
        have na : a ∉ o2 ++ p2 := (List.nodup_cons.mp (show (a :: (o2 ++ p2)).Nodup from nd)).1
        refine ⟨a, _, rfl, by rw [ek]; exact DPut.k h2 (by rw [h3.len, sizeLine_eq]; omega), ?_⟩
        obtain ⟨x', r', q1, q2, q3, q4, q5, q6⟩ := r2
        cases q3
        obtain ⟨e7, e8⟩ := q5
        cases e7
        subst e8
        rw [List.append_nil] at q6
        subst q6
        have m1 := h3.mono (Same.refl G2) (H' := upd H3 a (.dK (putK xs kk x))) _ (wN fun hm => na (by simp [hm]))
        have m2 := q4.mono (Same.refl G2) (H' := upd H3 a (.dK (putK xs kk x))) _ (wN fun hm => na (by simp [hm]))
        obtain ⟨o5, rest, f1, f2⟩ := m1.put m2 hl.2
        have S4 := wr a (.dK (putK xs kk x)) (reb t (.dic (putT kvs kk y))) [] [] (a :: o5) [] rest (by simp) (r1.reb ⟨a, _, _, rfl, upd_same, f1, rfl⟩) ⟨rfl, rfl⟩ (by
          simp only [List.cons_append, List.append_nil]
          exact List.Perm.cons a f2)
        rw [← putP_eq k3] at S4
        exact q _ _ S4 .rfl'
      | _ => cases g7
    · cases g10
  · cases g10
end
end DL
namespace DL
open PySem PySem.Spec PyProof.Rows L2
variable {env e : Env} {i j n k : Nat} {t u : T} {ts us : List T} {d a b : D} {ds es : List D} {fa fb fc f fk fx : EF} {r : AF} {F1 F2 F : SF} {G : GF} {z w : Int} {P : List Stp} {fo : PF} {ky : Key} {kvs : List (Key × T)} {nm fn : Str} {fs : List (Str × T)} {ad : Addr} {kd : List (Key × D)}
variable {φ : T → List D → Option (T × T)}
end DL
namespace DL
open PySem PySem.Spec PyProof.Rows L2
section
variable {K K' : PySem.W.Frag}
theorem Less.ns (L : Less K K') {ns : Addr} {name : Str} {r : Option Value} (h : PySem.W.nsIn K ns name = some r) : PySem.W.nsIn K' ns name = some r := by
  unfold PySem.W.nsIn at h ⊢
  split at h
  · rename_i e
    rw [L _ _ e fun ⟨_, _, _, e⟩ => nomatch e]
    exact h
  · cases h
theorem Less.own (L : Less K K') {name : Str} {c : Value} {r : Option Value} (h : PySem.W.ownIn K name c = some r) : PySem.W.ownIn K' name c = some r := by
  cases c with
  | ref a =>
    unfold PySem.W.ownIn at h ⊢
    dsimp only at h ⊢
    split at h
    · rename_i e
      rw [L _ _ e fun ⟨_, _, _, e⟩ => nomatch e]
      exact L.ns h
    · cases h
  | _ => exact h
theorem Less.along (L : Less K K') {name : Str} : ∀ {cs : List Value} {r : Option Value}, PySem.W.alongIn K name cs = some r → PySem.W.alongIn K' name cs = some r
  | [], _, h => h
  | c :: cs, r, h => by
    unfold PySem.W.alongIn at h ⊢
    split at h
    · rename_i e
      rw [L.own e]; exact h
    · rename_i e
      rw [L.own e]; exact Less.along L h
    · cases h
theorem Less.find (L : Less K K') {t : Value} {name : Str} {r : Option Value} (h : PySem.W.findIn K t name = some r) : PySem.W.findIn K' t name = some r := by
  cases t with
  | ref a =>
    unfold PySem.W.findIn at h ⊢
    dsimp only at h ⊢
    split at h
    · rename_i e
      rw [L _ _ e fun ⟨_, _, _, e⟩ => nomatch e]
      exact L.along h
    · cases h
  | _ => exact h
theorem Less.cls (L : Less K K') {C : Addr} {cd : ClassData} (h : PySem.W.clsIn K C = some cd) : PySem.W.clsIn K' C = some cd := by
  unfold PySem.W.clsIn at h ⊢
  split at h
  · rename_i e
    rw [L _ _ e fun ⟨_, _, _, e⟩ => nomatch e]
    exact h
  · cases h
theorem Less.clsAny (L : Less K K') {C : Addr} {p : ClassData → Bool} (h : (PySem.W.clsIn K C).any p = true) : (PySem.W.clsIn K' C).any p = true := by
  cases e : PySem.W.clsIn K C with
  | none => rw [e] at h; cases h
  | some cd => rw [e] at h; rw [L.cls e]; exact h
theorem Less.Cls (L : Less K K') {C : Addr} (c : L2.Cls K C) : L2.Cls K' C := by
  obtain ⟨pg, hd, po, sa⟩ := c
  refine ⟨?_, L.clsAny hd, L.clsAny po, L.find sa⟩
  unfold PySem.W.plainGet at pg ⊢
  rw [Bool.and_eq_true, beq_iff_eq, beq_iff_eq] at pg ⊢
  exact ⟨L.find pg.1, L.find pg.2⟩
theorem Less.NoAttr (L : Less K K') {C : Addr} {f : Str} (n : L2.NoAttr K C f) : L2.NoAttr K' C f := L.find n
theorem Less.ClsN (L : Less K K') {n : Str} {C : Addr} (h : DL.ClsN K n C) : DL.ClsN K' n C := L.ns h
theorem Less.sub (L : Less K K') {t b : Value} {r : Bool} (h : PySem.W.subIn K t b = some r) : PySem.W.subIn K' t b = some r := by
  cases t with
  | ref C =>
    have h : (PySem.W.clsIn K C).bind _ = some r := h
    obtain ⟨cd, h1, h2⟩ := Option.bind_eq_some_iff.mp h
    show (PySem.W.clsIn K' C).bind _ = some r
    rw [L.cls h1]
    exact h2
  | _ => exact h
end
end DL
namespace DL
open PySem PySem.Spec PyProof.Rows L2
section
variable {K : KW} {G0 H0 H : Hp} {W : List (T × V)} {ts : List T} {vs : List V} {env : Env} {σ : St}
end
def isR : T → Bool
  | .lst _ => true
  | .dic _ => true
  | .dit _ => true
  | .obj _ _ => true
  | _ => false
theorem isR_ref {K : KW} {G H : Hp} {u : T} {w : V} {o : List Addr} (h : isR u = true) (r : Rp K G H u w o) : ∃ a, w = .ref a := by
  cases u with
  | lst _ => obtain ⟨a, _, _, e, _⟩ := r; exact ⟨a, e⟩
  | dic _ => obtain ⟨a, _, _, e, _⟩ := r; exact ⟨a, e⟩
  | dit _ => obtain ⟨a, _, _, e, _⟩ := r; exact ⟨a, e⟩
  | obj _ _ => obtain ⟨a, _, _, _, _, e, _⟩ := r; exact ⟨a, e⟩
  | _ => cases h
def unbP (env : Env) (i : Nat) (P : List Stp) : Env := match atP env i P with
  | some t => putP env i P (unb t)
  | none => env
open Classical in
noncomputable def sBox (i : Nat) (fo : PF) (F : SF) : SF := fun env => (fo env).bind fun r => (atP env i r.1).bind fun u => if isR u = true then
  (if h : ∃ z, ∀ a, ((F (putP env i r.1 (.box a u))).map fun s => (s.1, unbP s.2 i r.1)) = some z then some h.choose else none) else none
section
variable {X : Cx} {e o k : Expr} {te to tk : TE} {f fk : EF} {fo : PF} {i : Nat} {pos cpos apos ipos tpos : Pos}
end
end DL
namespace DL
open PySem PySem.Spec PyProof.Rows L2
section
variable {K : KW} {G0 H0 H : Hp} {W : List (T × V)} {ts : List T} {vs : List V} {env : Env} {σ : St} {t : T} {v : V}
theorem OkS.newDit {p : Addr} (S : OkS K G0 H0 W H ts vs env σ) (hp : H p = none) : OkS K G0 H0 W (upd H p (.dT [])) (.dit [] :: ts) (.ref p :: vs) env σ := by
  obtain ⟨G, ot, oe, s⟩ := S
  have gp : G p = none := Same.none s.gh hp
  have ne : ∀ a u, H a = some u → a ≠ p := fun a u e z => by rw [z, hp] at e; cases e
  have k2 : ∀ a ∈ ot, upd H p (.dT []) a = H a := fun a ha => by
    obtain ⟨u, e, _⟩ := s.tmp.there _ a ha
    exact upd_ne (ne a u e)
  have k3 : ∀ a ∈ oe, upd H p (.dT []) a = H a := fun a ha => by
    obtain ⟨u, e, _⟩ := s.env.there _ a ha
    exact upd_ne (ne a u e)
  have all : ∀ a ∈ ot ++ oe, ∃ u, H a = some u := fun a ha => by
    rcases List.mem_append.mp ha with ha | ha
    · obtain ⟨u, e, _⟩ := s.tmp.there _ a ha; exact ⟨u, e⟩
    · obtain ⟨u, e, _⟩ := s.env.there _ a ha; exact ⟨u, e⟩
  refine ⟨G, p :: ot, oe, ⟨.ref p, vs, [p], ot, rfl, ⟨p, [], [], rfl, upd_same, ⟨rfl, rfl⟩, rfl⟩, s.tmp.mono (Same.refl _) _ k2, rfl⟩, s.env.mono (Same.refl _) _ k3, ?_, fun a ha => ?_, s.g0, fun b u e => ?_, fun b u e => ?_, s.nw, fun q hq => ?_⟩
  · rw [List.cons_append]
    refine List.nodup_cons.mpr ⟨fun z => ?_, s.nd⟩
    obtain ⟨u, e⟩ := all p z
    rw [hp] at e; cases e
  · rw [List.cons_append] at ha
    rcases List.mem_cons.mp ha with e | ha
    · subst e; exact ⟨gp, Same.none s.h0 hp⟩
    · exact s.fr a ha
  · rw [upd_ne (ne b u (s.gh b u e))]; exact s.gh b u e
  · rw [upd_ne (ne b u (s.h0 b u e))]; exact s.h0 b u e
  · obtain ⟨o, h⟩ := s.vw q hq
    refine ⟨o, h.mono (Same.refl _) _ fun a ha => ?_⟩
    obtain ⟨u, e, _⟩ := h.there _ a ha
    exact upd_ne (ne a u e)
def pairsTt (kvs : List (List Key × D)) : List (List Key × T) := kvs.map fun kv => (kv.1, T.p kv.2)
theorem rpTt_of {G : Hp} : ∀ {kvs : List (List Key × D)} {xs : List (List Key × V)} {o : List Addr}, RpTt K G H (pairsTt kvs) xs o → RpKt K G kvs xs ∧ o = []
  | [], _, _, h => h
  | (k, d) :: r, _, _, ⟨v, r', o1, o2, h1, h2, h3, h4⟩ => by
    obtain ⟨g1, g2⟩ := rpTt_of h3
    exact ⟨⟨v, r', h1, h2.1, g1⟩, by rw [h4, h2.2, g2]; rfl⟩
theorem rpTt_mk {G : Hp} : ∀ {kvs : List (List Key × D)} {xs : List (List Key × V)}, RpKt K G kvs xs → RpTt K G H (pairsTt kvs) xs []
  | [], _, h => ⟨h, rfl⟩
  | (k, d) :: r, _, ⟨v, r', h1, h2, h3⟩ => ⟨v, r', [], [], h1, ⟨h2, rfl⟩, rpTt_mk h3, rfl⟩
def putDt (kvs : List (List Key × D)) (k : List Key) (d : D) : List (List Key × D) := if (kvs.any fun kv => decide (kv.1 = k)) = true then kvs.map (fun kv => if kv.1 = k then (kv.1, d) else kv) else kvs ++ [(k, d)]
def valDt (kvs : List (List Key × D)) (k : List Key) : Option D := (kvs.find? fun kv => decide (kv.1 = k)).map (·.2)
theorem RpKt.any {G : Hp} (k : List Key) : ∀ {kvs : List (List Key × D)} {xs : List (List Key × V)}, RpKt K G kvs xs → (xs.any fun kv => decide (kv.1 = k)) = kvs.any fun kv => decide (kv.1 = k)
  | [], xs, h => by rw [show xs = [] from h]; rfl
  | (j, d) :: r, _, ⟨v, r', h1, h2, h3⟩ => by rw [h1, List.any_cons, List.any_cons, RpKt.any k h3]
theorem RpKt.upd {G : Hp} (k : List Key) {d : D} {v : V} (hv : RpD K G d v) : ∀ {kvs : List (List Key × D)} {xs : List (List Key × V)}, RpKt K G kvs xs → RpKt K G (kvs.map (fun kv => if kv.1 = k then (kv.1, d) else kv)) (xs.map (fun kv => if kv.1 = k then (kv.1, v) else kv))
  | [], xs, h => by rw [show xs = [] from h]; exact rfl
  | (j, e) :: r, _, ⟨w, r', h1, h2, h3⟩ => by
    subst h1
    rw [List.map_cons, List.map_cons]
    have ih := RpKt.upd k hv h3
    by_cases c : j = k
    · rw [if_pos c, if_pos c]; exact ⟨v, _, rfl, hv, ih⟩
    · rw [if_neg c, if_neg c]; exact ⟨w, _, rfl, h2, ih⟩
theorem RpKt.app {G : Hp} {k : List Key} {d : D} {v : V} (hv : RpD K G d v) : ∀ {kvs : List (List Key × D)} {xs : List (List Key × V)}, RpKt K G kvs xs → RpKt K G (kvs ++ [(k, d)]) (xs ++ [(k, v)])
  | [], xs, h => by rw [show xs = [] from h]; exact ⟨v, [], rfl, hv, rfl⟩
  | (j, e) :: r, _, ⟨w, r', h1, h2, h3⟩ => by subst h1; exact ⟨w, _, rfl, h2, RpKt.app hv h3⟩
theorem RpKt.put {G : Hp} {k : List Key} {d : D} {v : V} (hv : RpD K G d v) {kvs : List (List Key × D)} {xs : List (List Key × V)} (h : RpKt K G kvs xs) : RpKt K G (putDt kvs k d) (putK xs k v) := by
  unfold putDt putK
  rw [h.any k]
  split
  · exact h.upd k hv
  · exact h.app hv
theorem RpKt.val {G : Hp} (k : List Key) : ∀ {kvs : List (List Key × D)} {xs : List (List Key × V)}, RpKt K G kvs xs → (valDt kvs k = none → valV xs k = none) ∧ ∀ d, valDt kvs k = some d → ∃ v, valV xs k = some v ∧ RpD K G d v
  | [], xs, h => by rw [show xs = [] from h]; exact ⟨fun _ => rfl, fun d h => (nomatch h)⟩
  | (j, e) :: r, _, ⟨w, r', h1, h2, h3⟩ => by
    subst h1
    by_cases c : j = k
    · have e1 : valDt ((j, e) :: r) k = some e := by simp [valDt, List.find?_cons, c]
      rw [e1, valV_pos (by exact c)]
      exact ⟨fun h => (nomatch h), fun d h => by cases h; exact ⟨w, rfl, h2⟩⟩
    · have e1 : valDt ((j, e) :: r) k = valDt r k := by simp [valDt, List.find?_cons, c]
      rw [e1, valV_neg (by exact c)]
      exact RpKt.val k h3
theorem RpKt.length {G : Hp} : ∀ {kvs : List (List Key × D)} {xs : List (List Key × V)}, RpKt K G kvs xs → xs.length = kvs.length
  | [], xs, h => by rw [show xs = [] from h]; rfl
  | (j, e) :: r, _, ⟨w, r', h1, h2, h3⟩ => by subst h1; simp [RpKt.length h3]
def frzT : List (List Key × T) → Option (List (List Key × D))
  | [] => some []
  | (k, .p d) :: r => (frzT r).map ((k, d) :: ·)
  | _ :: _ => none
theorem frzT_eq : ∀ {kvs : List (List Key × T)} {ds : List (List Key × D)}, frzT kvs = some ds → kvs = pairsTt ds
  | [], ds, h => by cases h; rfl
  | (k, .p d) :: r, ds, h => by
    obtain ⟨es, h1, h2⟩ := omap (show (frzT r).map ((k, d) :: ·) = some ds from h)
    subst h2
    rw [frzT_eq h1]; rfl
  | (_, .lst _) :: _, _, h => by cases h
  | (_, .tup _) :: _, _, h => by cases h
  | (_, .dit _) :: _, _, h => by cases h
theorem frzT_pairs : ∀ ds : List (List Key × D), frzT (pairsTt ds) = some ds
  | [] => rfl
  | (k, d) :: r => by show (frzT (pairsTt r)).map ((k, d) :: ·) = _; rw [frzT_pairs r]; rfl
end
def keysL : List D → Option (List Key)
  | [] => some []
  | d :: ds => (keyD d).bind fun k => (keysL ds).map (k :: ·)
def keyTT : T → Option (List Key)
  | .p (.tup ds) => keysL ds
  | _ => none
theorem keysL_rp {K : KW} {G : Hp} : ∀ {ds : List D} {ks : List Key} {xs : List V}, keysL ds = some ks → RpDs K G ds xs → xs = ks.map L2.kV
  | [], ks, xs, h, r => by cases h; exact r
  | d :: ds, ks, xs, h, ⟨v, r, h1, h2, h3⟩ => by
    obtain ⟨k, g1, g2⟩ := obind (show (keyD d).bind _ = some ks from h)
    obtain ⟨ks', g3, g4⟩ := omap g2
    subst g4
    subst h1
    rw [keyD_rp g1 h2, keysL_rp g3 h3]; rfl
theorem keyL_rp {K : KW} {G : Hp} {d : D} {k : List Key} {v : V} (h : keyTT (.p d) = some k) (r : RpD K G d v) : ∃ b, v = .ref b ∧ G b = some (.tup (k.map L2.kV)) := by
  cases d with
  | tup ds =>
    obtain ⟨a, vs, h1, h2, h3⟩ := r
    exact ⟨a, h1, by rw [h2, keysL_rp (show keysL ds = some k from h) h3]⟩
  | _ => cases h
def eDt : EF := fun env => some (.dit [], env)
theorem dt_dt {X : Cx} {pos : Pos} : DT X (.Dict [] [] pos) tDNewT eDt := by
  refine ⟨pe_dnewT, ?_⟩
  intro G0 H0 W H ts vs env σ t env' S g Q q
  cases g
  exact fun p hp => q _ _ (same_upd hp) (S.newDit hp)
def ditT : T → Option (List (List Key × D))
  | .p (.dit kvs) => some kvs
  | .dit kvs => frzT kvs
  | _ => none
theorem St0.dit {K : KW} {G0 H0 G H : Hp} {W : List (T × V)} {ts : List T} {vs : List V} {env : Env} {σ : St} {ot oe : List Addr} {t : T} {v : V} {ds : List (List Key × D)} (s : St0 K G0 H0 W G H ts vs env σ ot oe) (hq : (t, v) ∈ W) (h : ditT t = some ds) :
    ∃ a xs, v = .ref a ∧ Rd H a (.dT xs) ∧ RpKt K G ds xs := by
  obtain ⟨o, r⟩ := s.vw (t, v) hq
  cases t with
  | p d =>
    cases d with
    | dit kvs =>
      cases h
      obtain ⟨⟨a, xs, e1, e2, e3⟩, _⟩ := r
      exact ⟨a, xs, e1, Same.rd s.gh e2, e3⟩
    | _ => cases h
  | dit kvs =>
    have e := frzT_eq (show frzT kvs = some ds from h)
    subst e
    obtain ⟨a, xs, o', e1, e2, e3, e4⟩ := r
    exact ⟨a, xs, e1, .inl e2, (rpTt_of e3).1⟩
  | _ => cases h
section
variable {X : Cx} {o i x : Expr} {to ti tx : TE} {fo fi fx : EF} {pos apos : Pos}
def eDixT (fo fi : EF) : EF := fun env => (fo env).bind fun r => (fi r.2).bind fun s => (ditT r.1).bind fun ds => (keyTT s.1).bind fun k => (valDt ds k).map fun d => (.p d, s.2)
theorem dt_dixT (hu : X.A.units + 1 < cLine) (ho : DV X o to fo) (hi : DT X i ti fi) (hs : NoSl i := by exact fun _ _ => rfl) : DT X (.Subscript o i pos) (tDGet to ti) (eDixT fo fi) := by
  refine ⟨pe_dget hu ho.pe hi.pe hs, ?_⟩
  intro G0 H0 W H ts vs env σ t env' S g Q q
  obtain ⟨⟨y, e1⟩, g1, g2⟩ := obind g
  obtain ⟨⟨z, e2⟩, g3, g4⟩ := obind g2
  obtain ⟨ds, g5, g6⟩ := obind g4
  obtain ⟨k, g7, g8⟩ := obind g6
  obtain ⟨d, g9, g10⟩ := omap g8
  cases g10
  cases z with
  | p kd =>
    refine ho.ok _ _ _ _ _ _ _ _ _ _ S g1 _ fun v H1 s1 S1 => ?_
    refine hi.ok _ _ _ _ _ _ _ _ _ _ S1 g3 _ fun w H2 s2 S2 => ?_
    obtain ⟨b, ew, eb⟩ := keyL_rp (show keyTT (.p kd) = some k from g7) S2.top
    obtain ⟨G, ot, oe, s⟩ := S2.pop
    obtain ⟨a, xs, ev, ha, rr⟩ := s.dit (t := y) (v := v) (by simp) g5
    obtain ⟨u, u1, u2⟩ := (rr.val k).2 d g9
    refine ⟨a, u, ev, by rw [ew, ← u1]; exact (.inr ⟨_, _, _, ha, rfl, eb, rfl⟩ : DGet _ _ _ _), ?_⟩
    have s' : St0 X.kw G0 H0 W G H2 ts vs _ σ ot oe := ⟨s.tmp, s.env, s.nd, s.fr, s.g0, s.gh, s.h0, s.nw, fun q hq => s.vw q (List.mem_cons_of_mem _ hq)⟩
    have S3 := OkS.pushD (ds := [d]) (xs := [u]) s' ⟨u, [], rfl, u2, rfl⟩
    exact q u H2 (s1.trans s2) S3
  | _ => cases g7
def eDgetT (fo fi fx : EF) : EF := fun env => (fo env).bind fun r => (fi r.2).bind fun s => (fx s.2).bind fun u => (ditT r.1).bind fun ds => (keyTT s.1).bind fun k => match u.1 with
  | .p z => some (.p ((valDt ds k).getD z), u.2)
  | _ => none
theorem dt_dgetT {cpos : Pos} (hu : X.A.units + 1 < cLine) (ho : DV X o to fo) (hi : DT X i ti fi) (hx : DT X x tx fx) (m : M2 X o "get" apos i x cpos := by exact ⟨by rfl, by rfl, by rfl, by rfl⟩) : DT X (.Call (.Attribute o "get" apos) [i, x] [] cpos) (tDGet2 to ti tx) (eDgetT fo fi fx) := by
  refine ⟨pe_dget2 hu ho.pe hi.pe hx.pe m, ?_⟩
  intro G0 H0 W H ts vs env σ t env' S g Q q
  obtain ⟨⟨y, e1⟩, g1, g2⟩ := obind g
  obtain ⟨⟨z, e2⟩, g3, g4⟩ := obind g2
  obtain ⟨⟨u, e3⟩, g5, g6⟩ := obind g4
  obtain ⟨ds, g7, g8⟩ := obind g6
  obtain ⟨k, g9, g10⟩ := obind g8
  cases z with
  | p kd =>
    cases u with
    | p ud =>
      have g10 : some (T.p ((valDt ds k).getD ud), e3) = some (t, env') := g10
      cases g10
      refine ho.ok _ _ _ _ _ _ _ _ _ _ S g1 _ fun v H1 s1 S1 => ?_
      have isd : ∃ a, v = .ref a ∧ IsD H1 a := by
        obtain ⟨G, ot, oe, s⟩ := S1
        obtain ⟨a, xs, ev, ha, _⟩ := s.dit (t := y) (v := v) (by simp) g7
        exact ⟨a, ev, .inr ⟨xs, ha⟩⟩
      obtain ⟨a0, ev0, hd⟩ := isd
      refine ⟨a0, ev0, hd, ?_⟩
      refine hi.ok _ _ _ _ _ _ _ _ _ _ S1 g3 _ fun w H2 s2 S2 => ?_
      obtain ⟨b, ew, eb⟩ := keyL_rp (show keyTT (.p kd) = some k from g9) S2.top
      refine hx.ok _ _ _ _ _ _ _ _ _ _ S2.pop g5 _ fun uu H3 s3 S3 => ?_
      obtain ⟨G, ot, oe, s⟩ := S3
      obtain ⟨a, xs, ev, ha, rr⟩ := s.dit (t := y) (v := v) (by simp) g7
      rw [ev0] at ev
      cases ev
      have s' : St0 X.kw G0 H0 W G H3 (.p ud :: ts) (uu :: vs) _ σ ot oe := ⟨s.tmp, s.env, s.nd, s.fr, s.g0, s.gh, s.h0, s.nw, fun q hq => s.vw q (List.mem_cons_of_mem _ hq)⟩
      refine ⟨valV xs k, by rw [ew]; exact (.inr ⟨_, _, _, ha, rfl, s3 _ _ eb, rfl⟩ : DGet _ _ _ _), ?_⟩
      cases hv : valDt ds k with
      | none =>
        rw [(rr.val k).1 hv]
        rw [hv] at q
        exact q uu H3 ((s1.trans s2).trans s3) ⟨G, ot, oe, s'⟩
      | some d =>
        obtain ⟨n, n1, n2⟩ := (rr.val k).2 d hv
        rw [n1]
        rw [hv] at q
        have S4 := OkS.pushD (ds := [d]) (xs := [n]) s' ⟨n, [], rfl, n2, rfl⟩
        have S5 : OkS X.kw G0 H0 W H3 (.p ud :: .p d :: ts) (uu :: n :: vs) _ σ := OkS.mid (us := [.p d]) (ws := [n]) rfl S4
        exact q n H3 ((s1.trans s2).trans s3) S5.pop
    | _ => cases g10
  | _ => cases g9
def eDinT (b : Bool) (fi fo : EF) : EF := fun env => (fi env).bind fun s => (fo s.2).bind fun r => (ditT r.1).bind fun ds => (keyTT s.1).bind fun k => some (.p (.bl (if b then (valDt ds k).isSome else !(valDt ds k).isSome)), r.2)
theorem ev_dinT (b : Bool) {td : TE} (htd : td = if b then tDIn ti to else tDNotIn ti to) (ho : EvV X.kw to fo) (hi : EvV X.kw ti fi) : EvT X.kw td (eDinT b fi fo) := by
  intro G0 H0 W H ts vs env σ t env' S g Q q
  obtain ⟨⟨z, e1⟩, g1, g2⟩ := obind g
  obtain ⟨⟨y, e2⟩, g3, g4⟩ := obind g2
  obtain ⟨ds, g5, g6⟩ := obind g4
  obtain ⟨k, g7, g8⟩ := obind g6
  cases g8
  cases z with
  | p kd =>
    have main : ti σ H fun w H1 => to σ H1 fun v H2 => ∃ a o, v = .ref a ∧ DGet H2 a w o ∧ Q (.bl (if b then o.isSome else !o.isSome)) H2 := by
      refine hi _ _ _ _ _ _ _ _ _ _ S g1 _ fun w H1 s1 S1 => ?_
      refine ho _ _ _ _ _ _ _ _ _ _ S1 g3 _ fun v H2 s2 S2 => ?_
      obtain ⟨bb, ew, eb⟩ := keyL_rp (show keyTT (.p kd) = some k from g7) (S2.see (q := (.p kd, w)) (by simp))
      have ew : w = .ref bb := ew
      obtain ⟨G, ot, oe, s⟩ := S2
      obtain ⟨a, xs, ev, ha, rr⟩ := s.dit (t := y) (v := v) (by simp) g5
      have s' : St0 X.kw G0 H0 W G H2 ts vs _ σ ot oe := ⟨s.tmp, s.env, s.nd, s.fr, s.g0, s.gh, s.h0, s.nw, fun q hq => s.vw q (List.mem_cons_of_mem _ (List.mem_cons_of_mem _ hq))⟩
      have same : (valV xs k).isSome = (valDt ds k).isSome := by
        cases hv : valDt ds k with
        | none => rw [(rr.val k).1 hv]; rfl
        | some d => obtain ⟨n, n1, _⟩ := (rr.val k).2 d hv; rw [n1]; rfl
      refine ⟨a, valV xs k, ev, by rw [ew]; exact (.inr ⟨_, _, _, ha, rfl, eb, rfl⟩ : DGet _ _ _ _), ?_⟩
      rw [same]
      exact q _ H2 (s1.trans s2) (OkS.scal ⟨G, ot, oe, s'⟩ fun _ => rfl)
    subst htd
    cases b with
    | true => exact main
    | false => exact main
  | _ => cases g7
end
section
variable {X : Cx} {e o k : Expr} {te to tk : TE} {f fk : EF} {fo : PF} {i : Nat} {pos ipos : Pos}
def sPutT (i : Nat) (fo : PF) (fk f : EF) : SF := fun env => (f env).bind fun r => (fo r.2).bind fun p => (fk p.2).bind fun s => (keyTT s.1).bind fun k => (atP s.2 i p.1).bind fun t => match r.1 with
  | .p d => match unb t with
    | .dit kvs => (frzT kvs).bind fun kd => if kd.length < 16000000 then some (.nx, putP s.2 i p.1 (reb t (.dit (pairsTt (putDt kd k d))))) else none
    | _ => none
  | _ => none
theorem ds_putT (hu : X.A.units + 1 < cLine) (ho : DP X o to i fo) (hk : DT X k tk fk) (h : DT X e te f) (hs : swapsWith e (some (.Subscript o k ipos)) pos.line X.env = pure false := by rfl) : DS X (.Assign [.Subscript o k ipos] e pos) (sDPut to tk te) (sPutT i fo fk f) [] := by
  refine ⟨ps_dput hu ho.pe hk.pe h.pe hs, ?_⟩
  intro G0 H0 H ts vs env σ fl env' S g D q
  obtain ⟨⟨y, e1⟩, g1, g2⟩ := obind g
  obtain ⟨⟨P, e2⟩, g3, g4⟩ := obind g2
  obtain ⟨⟨z, e3⟩, g5, g6⟩ := obind g4
  obtain ⟨kk, g7, g8⟩ := obind g6
  obtain ⟨t, g9, g10⟩ := obind g8
  cases y with
  | p d =>
    have g10 : (match unb t with
      | .dit kvs => (frzT kvs).bind fun kd => if kd.length < 16000000 then some (Fl.nx, putP e3 i P (reb t (.dit (pairsTt (putDt kd kk d))))) else none
      | _ => none) = some (fl, env') := g10
    split at g10
    · rename_i kvs hun
      obtain ⟨kd0, f1, f2⟩ := obind g10
      have ek0 := frzT_eq f1
      subst ek0
      split at f2
      · rename_i hl
        cases f2
        cases z with
        | p kd =>
          refine h.ok _ _ _ _ _ _ _ _ _ _ S g1 _ fun x H1 s1 S1 => ?_
          refine ho.ok _ _ _ _ _ _ _ _ _ _ S1 g3 _ fun v w H2 s2 S2 hv hc => ?_
          refine hk.ok _ _ _ _ _ _ _ _ _ _ S2 g5 _ fun kx H3 s3 S3 => ?_
          obtain ⟨b, ek, eb⟩ := keyL_rp (show keyTT (.p kd) = some kk from g7) S3.top
          obtain ⟨tt, k3, k4⟩ := atP_eq g9
          obtain ⟨G2, p1, p2, r1, r2, nd, sG2, fr, wr⟩ := OkS.wr (es := [.p d]) (ws := [x]) S3.pop rfl k3 k4 hv (hc.same s3)
          have ru := r1.unb
          rw [hun] at ru
          obtain ⟨a, xs, o2, h1, h2, h3, h4⟩ := ru
          subst h1; subst h4
          obtain ⟨hk3, e8⟩ := rpTt_of h3
          subst e8
          refine ⟨a, _, rfl, by rw [ek]; exact DPut.t h2 eb (by rw [hk3.length, sizeLine_eq]; omega), ?_⟩
          obtain ⟨x', r', q1, q2, q3, ⟨q4, e9⟩, q5, q6⟩ := r2
          cases q3
          obtain ⟨e7, e8⟩ := q5
          subst e8
          have ep2 : p2 = [] := by rw [q6, e9]; rfl
          subst ep2
          have S4 := wr a (.dT (putK xs kk x)) (reb t (.dit (pairsTt (putDt kd0 kk d)))) [] [] [a] [] [] (by simp) (r1.reb ⟨a, _, [], rfl, upd_same, rpTt_mk (hk3.put q4), rfl⟩) ⟨rfl, rfl⟩ (by simp)
          rw [← putP_eq k3] at S4
          exact q _ _ S4 .rfl'
        | _ => cases g7
      · cases f2
    · cases g10
  | _ => cases g10
end
end DL
namespace DL
open PySem PySem.Spec PyProof.Rows L2
def eMvP (i : Nat) (fo : PF) : EF := fun env => (fo env).bind fun r => (atP r.2 i r.1).map fun u => (u, putP r.2 i r.1 (.al 0))
theorem OkS.move {K : KW} {G0 H0 H : Hp} {W : List (T × V)} {ts : List T} {vs : List V} {env : Env} {σ : St} {i : Nat} {P : List Stp} {u : T} {v w : V} (S : OkS K G0 H0 W H ts vs env σ) (h : atP env i P = some u) (hv : σ[i]? = some (some v)) (hc : Ch H P v w) :
    OkS K G0 H0 W H (u :: ts) (w :: vs) (putP env i P (.al 0)) σ := by
  obtain ⟨t, h1, h2⟩ := atP_eq h
  obtain ⟨G, ot, oe, s⟩ := S
  obtain ⟨v', oA, oB, e1, e2, e3, e4⟩ := s.env.take h1
  rw [hv] at e1; cases e1
  obtain ⟨w', o1, o2, f1, f2, f3, f4⟩ := e2.foc s.gh h2
  have := f1.det hc
  subst this
  rw [putP_eq h1]
  obtain ⟨o', q1, q2⟩ := f4 (G' := G) (H' := H) (u' := .al 0) (o1' := []) (Same.refl _) (fun _ _ => rfl) ⟨fun z => absurd rfl z, rfl⟩
  have hl : i < env.length := (List.getElem?_eq_some_iff.mp h1).1
  obtain ⟨o8, g1, g2⟩ := e3.put (i := i) (by simpa using hl) (fun x z => by rw [List.getElem?_set_self hl] at z; cases z) q1
  rw [List.set_set, set_back hv] at g1
  have pm : o8.Perm (o2 ++ oB) := g2.trans (List.Perm.append_right _ q2)
  have pm2 : ((o1 ++ ot) ++ o8).Perm (ot ++ oe) := by
    refine List.Perm.trans (List.Perm.append_left _ pm) ?_
    refine List.Perm.trans ?_ (List.Perm.append_left ot (e4.trans (List.Perm.append_right _ f3))).symm
    exact List.perm_iff_count.mpr fun x => by simp only [List.count_append]; omega
  exact ⟨G, o1 ++ ot, o8, ⟨w', vs, o1, ot, rfl, f2, s.tmp, rfl⟩, g1, pm2.nodup_iff.mpr s.nd, fun a ha => s.fr a (pm2.mem_iff.mp ha), s.g0, s.gh, s.h0, s.nw, s.vw⟩
theorem dt_mv {X : Cx} {o : Expr} {to : TE} {i : Nat} {fo : PF} (ho : DP X o to i fo) : DT X o to (eMvP i fo) := by
  refine ⟨ho.pe, ?_⟩
  intro G0 H0 W H ts vs env σ t env' S g Q q
  obtain ⟨⟨P, e1⟩, g1, g2⟩ := obind g
  obtain ⟨u, g3, g4⟩ := omap g2
  cases g4
  exact ho.ok _ _ _ _ _ _ _ _ _ _ S g1 _ fun v w H1 s1 S1 hv hc => q w H1 s1 (S1.move g3 hv hc)
section
variable {X : Cx} {e : Expr} {te : TE} {f : EF} {a b : List Stmt} {t u : TS} {F1 F2 : SF} {sl sl2 : List Nat} {pos : Pos}
end
mutual
def cleanD : D → Bool
  | .non => true
  | .bl _ => true
  | .int _ => true
  | .str _ => true
  | .tup ds => cleanDs ds
  | .tux ds => cleanDs ds
  | _ => false
def cleanDs : List D → Bool
  | [] => true
  | d :: ds => cleanD d && cleanDs ds
end
mutual
def cleanV : T → Bool
  | .p d => cleanD d
  | .lst ts => cleanVs ts
  | .tup ts => cleanVs ts
  | _ => false
def cleanVs : List T → Bool
  | [] => true
  | t :: ts => cleanV t && cleanVs ts
end
section
variable {K : KW} {G G' H : Hp}
mutual
theorem RpD.cleanV (e : ∀ a u, Fix u → G a = some u → G' a = some u) : ∀ (d : D) {v : V}, cleanD d = true → RpD K G d v → RpD K G' d v
  | .non, _, _, h => h
  | .bl _, _, _, h => h
  | .int _, _, _, h => h
  | .str _, _, _, h => h
  | .tup ds, _, c, ⟨a, vs, h1, h2, h3⟩ => ⟨a, vs, h1, e _ _ .t h2, RpDs.cleanV e ds (by unfold cleanD at c; exact c) h3⟩
  | .tux ds, _, c, ⟨a, o, vs, h1, h2, h4, h3⟩ => ⟨a, o, vs, h1, e _ _ .f h2, h4, RpDs.cleanV e ds (by unfold cleanD at c; exact c) h3⟩
  | .lst _, _, c, _ => by unfold cleanD at c; cases c
  | .dic _, _, c, _ => by unfold cleanD at c; cases c
  | .dit _, _, c, _ => by unfold cleanD at c; cases c
  | .obj _ _, _, c, _ => by unfold cleanD at c; cases c
  | .al _, _, c, _ => by unfold cleanD at c; cases c
  | .din _, _, c, _ => by unfold cleanD at c; cases c
theorem RpDs.cleanV (e : ∀ a u, Fix u → G a = some u → G' a = some u) : ∀ (ds : List D) {vs : List V}, cleanDs ds = true → RpDs K G ds vs → RpDs K G' ds vs
  | [], _, _, h => h
  | d :: ds, _, c, ⟨v, r, h1, h2, h3⟩ => by
    unfold cleanDs at c
    rw [Bool.and_eq_true] at c
    exact ⟨v, r, h1, RpD.cleanV e d c.1 h2, RpDs.cleanV e ds c.2 h3⟩
end
mutual
theorem Rp.cleanV (e : ∀ a u, Fix u → G a = some u → G' a = some u) : ∀ (t : T) {v : V} {o : List Addr}, DL.cleanV t = true → Rp K G H t v o → Rp K G' H t v o
  | .p d, _, _, c, ⟨h1, h2⟩ => ⟨RpD.cleanV e d (by unfold DL.cleanV at c; exact c) h1, h2⟩
  | .lst ts, _, _, c, ⟨a, vs, o', h1, h2, h3, h4⟩ => ⟨a, vs, o', h1, h2, RpTs.cleanV e ts (by unfold DL.cleanV at c; exact c) h3, h4⟩
  | .tup ts, _, _, c, ⟨a, vs, h1, h2, h3⟩ => ⟨a, vs, h1, e _ _ .t h2, RpTs.cleanV e ts (by unfold DL.cleanV at c; exact c) h3⟩
  | .dic _, _, _, c, _ => by unfold DL.cleanV at c; cases c
  | .dit _, _, _, c, _ => by unfold DL.cleanV at c; cases c
  | .obj _ _, _, _, c, _ => by unfold DL.cleanV at c; cases c
  | .box _ _, _, _, c, _ => by unfold DL.cleanV at c; cases c
  | .al _, _, _, c, _ => by unfold DL.cleanV at c; cases c
  | .din _, _, _, c, _ => by unfold DL.cleanV at c; cases c
theorem RpTs.cleanV (e : ∀ a u, Fix u → G a = some u → G' a = some u) : ∀ (ts : List T) {vs : List V} {o : List Addr}, cleanVs ts = true → RpTs K G H ts vs o → RpTs K G' H ts vs o
  | [], _, _, _, h => h
  | t :: ts, _, _, c, ⟨v, r, o1, o2, h1, h2, h3, h4⟩ => by
    unfold cleanVs at c
    rw [Bool.and_eq_true] at c
    exact ⟨v, r, o1, o2, h1, Rp.cleanV e t c.1 h2, RpTs.cleanV e ts c.2 h3, h4⟩
end
end
section
variable {X : Cx} {i o : Expr} {ti to : TE} {fi fo : EF} {pos : Pos}
theorem dc_dinT (hu : X.A.units + 1 < cLine) (hi : DV X i ti fi) (ho : DV X o to fo) (hm : behindInMarks .In o = false := by with_unfolding_all rfl) : DC X (.Compare i [.In] [o] pos) (tTest (tDIn ti to)) (cT (eDinT true fi fo)) := ⟨pt_cmp (pc_din hu hi.pe ho.pe) hm, (ev_dinT true rfl ho.ok hi.ok).test⟩
end
end DL
namespace DL
open PySem PySem.Spec PyProof.Rows L2
section
variable {K : KW} {G0 H0 H : Hp} {W : List (T × V)} {ts : List T} {vs : List V} {env : Env} {σ : St} {i : Nat} {P : List Stp} {u : T} {v w : V}
theorem OkS.fill {u' : T} (S : OkS K G0 H0 [] H (u' :: ts) (w :: vs) env σ) (h : atP env i P = some u) (hv : σ[i]? = some (some v)) (hc : Ch H P v w) : OkS K G0 H0 [] H ts vs (putP env i P u') σ := by
  obtain ⟨t, h1, h2⟩ := atP_eq h
  obtain ⟨G, ot, oe, s⟩ := S
  obtain ⟨w0, r0, oa, ob, k1, k2, k3, k4⟩ := s.tmp
  cases k1
  subst k4
  obtain ⟨v', oA, oB, e1, e2, e3, e4⟩ := s.env.take h1
  rw [hv] at e1; cases e1
  obtain ⟨w', o1, o2, f1, f2, f3, f4⟩ := e2.foc s.gh h2
  have := f1.det hc
  subst this
  rw [putP_eq h1]
  obtain ⟨o', q1, q2⟩ := f4 (G' := G) (H' := H) (Same.refl _) (fun _ _ => rfl) k2
  have hl : i < env.length := (List.getElem?_eq_some_iff.mp h1).1
  obtain ⟨o8, g1, g2⟩ := e3.put (i := i) (by simpa using hl) (fun x z => by rw [List.getElem?_set_self hl] at z; cases z) q1
  rw [List.set_set, set_back hv] at g1
  have pm : o8.Perm (oa ++ (o2 ++ oB)) := g2.trans (by rw [← List.append_assoc]; exact List.Perm.append_right _ q2)
  have pm2 : ((ob ++ o8) ++ o1).Perm ((oa ++ ob) ++ oe) := by
    refine List.Perm.trans (List.Perm.append_right _ (List.Perm.append_left _ pm)) ?_
    refine List.Perm.trans ?_ (List.Perm.append_left _ (e4.trans (List.Perm.append_right _ f3))).symm
    exact List.perm_iff_count.mpr fun x => by simp only [List.count_append]; omega
  have nd2 := pm2.nodup_iff.mpr s.nd
  exact ⟨G, ob, o8, k3, g1, (List.nodup_append.mp nd2).1, fun a ha => s.fr a (pm2.mem_iff.mp (List.mem_append_left _ ha)), s.g0, s.gh, s.h0, s.nw, fun q hq => by cases hq⟩
end
def backP (i j : Nat) (P : List Stp) (a : Addr) (s : Fl × Env) : Option (Fl × Env) := match s.2[j]? with
  | some (some u') => (match atP (s.2.set j none) i P with
    | some (.al b) => if b = a + 1 then some (s.1, putP (s.2.set j none) i P u') else none
    | _ => none)
  | _ => none
open Classical in
noncomputable def sAl (j i : Nat) (fo : PF) (F : SF) : SF := fun env => (fo env).bind fun r => (atP r.2 i r.1).bind fun u => if isR u = true ∧ j < r.2.length then
  (if h : ∃ z, ∀ a : Addr, ((F ((putP r.2 i r.1 (.al (a + 1))).set j (some u))).bind (backP i j r.1 a)) = some z then some h.choose else none) else none
end DL
namespace DL
open PySem PySem.Spec PyProof.Rows L2
def isRT : T → Bool
  | .tup _ => true
  | t => isR t
theorem isRT_ref {K : KW} {G H : Hp} {u : T} {w : V} {o : List Addr} (h : isRT u = true) (r : Rp K G H u w o) : ∃ a, w = .ref a := by
  cases u with
  | tup _ => obtain ⟨a, _, e, _⟩ := r; exact ⟨a, e⟩
  | lst _ => exact isR_ref rfl r
  | dic _ => exact isR_ref rfl r
  | dit _ => exact isR_ref rfl r
  | obj _ _ => exact isR_ref rfl r
  | _ => cases h
section
variable {K : KW} {G0 H0 H : Hp} {ts pre post : List T} {vs : List V} {env : Env} {σ : St} {t : T} {v : V}
theorem OkS.hole (S : OkS K G0 H0 [] H (.lst (pre ++ t :: post) :: ts) (v :: vs) env σ) (ht : isRT t = true) :
    ∃ a xs b, v = .ref a ∧ H a = some (.lst xs) ∧ xs.length = (pre ++ t :: post).length ∧ xs[pre.length]? = some (.ref b) ∧ OkS K G0 H0 [] H (t :: .lst (pre ++ .al (b + 1) :: post) :: ts) (.ref b :: v :: vs) env σ := by
  obtain ⟨G, ot, oe, s⟩ := S
  obtain ⟨u, r, o1, o2, h1, ⟨a, xs, o', k1, k2, k3, k4⟩, h3, h4⟩ := s.tmp
  cases h1
  subst k1; subst k4; subst h4
  obtain ⟨w, p1, p2, f1, f2, f3, f4⟩ := k3.foc (n := pre.length) (u := t) (by simp)
  obtain ⟨b, rfl⟩ := isRT_ref ht f2
  obtain ⟨q, g1, g2⟩ := f4 (G' := G) (H' := H) (u' := .al (b + 1)) (o1' := []) (Same.refl _) (fun _ _ => rfl) ⟨fun _ => rfl, rfl⟩
  have e1 : (pre ++ t :: post).set pre.length (.al (b + 1)) = pre ++ .al (b + 1) :: post := by rw [List.set_append_right _ _ (Nat.le_refl _)]; simp
  rw [e1] at g1
  have pm : ((p1 ++ (a :: q ++ o2)) ++ oe).Perm ((a :: o' ++ o2) ++ oe) := by
    refine List.Perm.append_right _ ?_
    have h5 : (a :: q ++ o2).Perm (a :: p2 ++ o2) := List.Perm.append_right _ (List.Perm.cons a (by simpa using g2))
    refine (List.Perm.append_left _ h5).trans ?_
    refine List.Perm.trans ?_ (List.Perm.append_right _ (List.Perm.cons a f3.symm))
    exact List.perm_iff_count.mpr fun x => by simp only [List.count_append, List.count_cons]; omega
  exact ⟨a, xs, b, rfl, k2, k3.len, f1, G, p1 ++ (a :: q ++ o2), oe, ⟨_, _, p1, a :: q ++ o2, rfl, f2, ⟨_, _, a :: q, o2, rfl, ⟨a, xs, q, rfl, k2, g1, rfl⟩, h3, rfl⟩, rfl⟩, s.env, pm.nodup_iff.mpr s.nd, fun x hx => s.fr x (pm.mem_iff.mp hx), s.g0, s.gh, s.h0, s.nw, fun q hq => by cases hq⟩
theorem OkS.unhole {b : Addr} (S : OkS K G0 H0 [] H (t :: .lst (pre ++ .al (b + 1) :: post) :: ts) (.ref b :: v :: vs) env σ) : OkS K G0 H0 [] H (.lst (pre ++ t :: post) :: ts) (v :: vs) env σ := by
  obtain ⟨G, ot, oe, s⟩ := S
  obtain ⟨w0, r0, oa, ob, c1, c2, ⟨u, r, o1, o2, h1, ⟨a, xs, o', k1, k2, k3, k4⟩, h3, h4⟩, c4⟩ := s.tmp
  cases c1
  cases h1
  subst k1; subst k4; subst h4; subst c4
  obtain ⟨w, p1, p2, f1, ⟨hw, hp1⟩, f3, f4⟩ := k3.foc (n := pre.length) (u := .al (b + 1)) (by simp)
  have hw : w = .ref b := hw (Nat.succ_ne_zero _)
  subst hw; subst hp1
  obtain ⟨q, g1, g2⟩ := f4 (G' := G) (H' := H) (Same.refl _) (fun _ _ => rfl) c2
  have e1 : (pre ++ T.al (b + 1) :: post).set pre.length t = pre ++ t :: post := by rw [List.set_append_right _ _ (Nat.le_refl _)]; simp
  rw [e1] at g1
  have pm : ((a :: q ++ o2) ++ oe).Perm ((oa ++ (a :: o' ++ o2)) ++ oe) := by
    refine List.Perm.append_right _ ?_
    have h5 : (a :: q ++ o2).Perm (a :: (oa ++ p2) ++ o2) := List.Perm.append_right _ (List.Perm.cons a g2)
    refine h5.trans ?_
    refine List.Perm.trans ?_ (List.Perm.append_left _ (List.Perm.append_right _ (List.Perm.cons a (by simpa using f3.symm))))
    exact List.perm_iff_count.mpr fun x => by simp only [List.count_append, List.count_cons]; omega
  exact ⟨G, a :: q ++ o2, oe, ⟨_, _, a :: q, o2, rfl, ⟨a, xs, q, rfl, k2, g1, rfl⟩, h3, rfl⟩, s.env, pm.nodup_iff.mpr s.nd, fun x hx => s.fr x (pm.mem_iff.mp hx), s.g0, s.gh, s.h0, s.nw, fun q hq => by cases hq⟩
end
def loopP (j : Nat) (body : SF) : List T → List T → Env → Option (Fl × List T × Env)
  | done, [], env => some (.nx, done, env)
  | done, t :: rest, env => if j < env.length ∧ isRT t = true then (body (env.set j (some t))).bind fun r => match r.2[j]? with
    | some (some t') => match r.1 with
      | .nx => loopP j body (done ++ [t']) rest (r.2.set j none)
      | .ct => loopP j body (done ++ [t']) rest (r.2.set j none)
      | .bk => some (.nx, done ++ t' :: rest, r.2.set j none)
      | .rt u => some (.rt u, done ++ t' :: rest, r.2.set j none)
    | _ => none
    else none
def sForP (i j : Nat) (body : SF) : SF := fun env => (atL env i).bind fun us => (loopP j body [] us (env.set i none)).map fun r => (r.1, r.2.2.set i (some (.lst r.2.1)))
theorem OkS.cell {K : KW} {G0 H0 H : Hp} {us ts : List T} {vs : List V} {v : V} {env : Env} {σ : St} (S : OkS K G0 H0 [] H (.lst us :: ts) (v :: vs) env σ) : ∃ a xs, v = .ref a ∧ H a = some (.lst xs) ∧ xs.length = us.length := by
  obtain ⟨G, ot, oe, s⟩ := S
  obtain ⟨u, r, o1, o2, h1, ⟨a, xs, o', k1, k2, k3, k4⟩, h3, h4⟩ := s.tmp
  cases h1
  exact ⟨a, xs, k1, k2, k3.len⟩
theorem ds_forP {X : Cx} {body : List Stmt} {tb : TS} {F : SF} {pos npos py : Pos} {sl2 : List Nat} (i : Nat) {j : Nat} {x y : Str} (hp : PassesOwn (model X.prog X.w) X.A X.env X.xe) (hc : X.calm = true) (hn : X.N.Nodup) (hy : X.N[j]? = some y) (hyl : Loc X.env.scope y) (hb : DSs X body tb F sl2) (hij : i ∉ [j] ++ sl2) (hj : j ∉ sl2)
    (hN : X.N[i]? = some x := by rfl) (hv : Vis X.env.scope x := by first | exact Or.inl rfl | exact Or.inr (Or.inl rfl) | exact Or.inr (Or.inr rfl)) (hd : (x == ("__debug__" : Str)) = false := by decide) (hcd : (x == ("__classdict__" : Str)) = false := by decide)
    (hf : X.fn y = true ∨ X.env.scope.names.lookup y = some .local := by first | exact .inl rfl | exact .inr rfl | assumption)
    (hs : ∀ z, foldedSetIterable (.Name x npos) X.env z = pure z := by intro _; rfl) : DS X (.For (.Name y py) (.Name x npos) body [] pos) (tFor (iList X.K (tVar i)) (gName j) tb) (sForP i j F) ([j] ++ sl2) := by
  refine ⟨ps_for hp hc (pi_list (pe_var hN hv hd hcd)) (pg_name hn hy hyl hf) hb.ps hs, ?_⟩
  intro G0 H0 H ts vs env σ fl env' S e D q
  obtain ⟨us, g1, g2⟩ := obind e
  obtain ⟨⟨fl2, us2, e2⟩, g5, g6⟩ := omap g2
  have he := atL_eq g1
  obtain ⟨v, hv1, S1⟩ := S.get he
  obtain ⟨a, xs0, ev, hx0, _⟩ := S1.cell
  subst ev
  refine ⟨.ref a, hv1, a, rfl, ⟨xs0, .inl (.inl hx0)⟩, ?_⟩
  refine ⟨fun k m σ2 H => m = us.length - k ∧ k ≤ us.length ∧ Dif ([j] ++ sl2) σ σ2 ∧ ∃ env done rest, done.length = k ∧ done.length + rest.length = us.length ∧ OkS X.kw G0 H0 [] H (.lst (done ++ rest) :: ts) (.ref a :: vs) env σ2 ∧ loopP j F done rest env = some (fl2, us2, e2), ⟨us.length, by simp, Nat.zero_le _, .rfl', _, [], us, rfl, by simp, S1, g5⟩, ?_⟩
  rintro k m σ2 H2 ⟨rfl, hle, df, env2, done, rest, hk, hkl, S2, hl⟩
  have fin : ∀ (fl : Fl) (us3 : List T) (env3 : Env) (H3 : Hp) (σ3 : St), (fl2, us2, e2) = (.nx, us3, env3) → OkS X.kw G0 H0 [] H3 (.lst us3 :: ts) (.ref a :: vs) env3 σ3 → Dif ([j] ++ sl2) σ σ3 → D.nx σ3 H3 := fun _ us3 env3 H3 σ3 e S3 df3 => by
    cases e
    cases g6
    have hlen : i < σ.length := (List.getElem?_eq_some_iff.mp hv1).1
    have h3 : σ3[i]? = some (some (.ref a)) := (df3.2 i hij).trans hv1
    have S4 := S3.put (i := i) (by have := S3.len; rw [df3.1] at this; omega)
    rw [set_back h3] at S4
    exact q H3 σ3 S4 df3
  cases rest with
  | nil =>
    cases hl
    obtain ⟨a', xs, ea, hx, hxl⟩ := S2.cell
    cases ea
    rw [List.append_nil] at S2 hxl
    exact .inl ⟨⟨xs, .inl (.inl hx), by simp at hkl; omega⟩, fin .nx _ _ H2 σ2 rfl S2 df⟩
  | cons t rest =>
    have hl : (if j < env2.length ∧ isRT t = true then (F (env2.set j (some t))).bind _ else none) = some (fl2, us2, e2) := hl
    split at hl
    · rename_i hjt
      obtain ⟨⟨fl3, e3⟩, l1, l2⟩ := obind hl
      obtain ⟨a', xs, b, ea, hx, hxl, hxk, S3⟩ := S2.hole hjt.2
      cases ea
      rw [List.length_cons] at hkl
      refine .inr ⟨⟨xs, .ref b, .inl (.inl hx), by rw [← hk]; exact hxk⟩, fun σ' H' => k + 1 ≤ us.length ∧ Dif ([j] ++ sl2) σ σ' ∧ ∃ env done rest, done.length = k + 1 ∧ done.length + rest.length = us.length ∧ OkS X.kw G0 H0 [] H' (.lst (done ++ rest) :: ts) (.ref a :: vs) env σ' ∧ loopP j F done rest env = some (fl2, us2, e2), fun σ' H' ⟨h1, h2⟩ => ⟨us.length - (k + 1), by omega, rfl, h1, h2⟩, fun w H3 hw => ?_⟩
      obtain ⟨eH, hw⟩ := hw
      subst eH
      have ew : V.ref b = w := Option.some.inj ((by rw [← hk]; exact hxk : xs[k]? = some (V.ref b)).symm.trans (hw xs (.inl (.inl hx))))
      subst ew
      have S4 := S3.put (i := j) hjt.1
      have hσl : j < σ2.length := by rw [S2.len]; exact hjt.1
      refine hb.ok _ _ _ _ _ _ _ _ _ S4 l1 _ ?_
      have back : ∀ (us0 : List T) (vs0 : List V) (t' : T) (H' : Hp) (σ' : St), e3[j]? = some (some t') → OkS X.kw G0 H0 [] H' (us0 ++ .lst (done ++ .al (b + 1) :: rest) :: ts) (vs0 ++ .ref a :: vs) e3 σ' → vs0.length = us0.length → Dif sl2 (σ2.set j (some (V.ref b))) σ' → OkS X.kw G0 H0 [] H' (.lst (done ++ t' :: rest) :: (us0 ++ ts)) (.ref a :: (vs0 ++ vs)) (e3.set j none) σ' := fun us0 vs0 t' H' σ' ht' S5 hv0 dfb => by
        obtain ⟨v', hv', S6⟩ := S5.get ht'
        have : σ'[j]? = some (some (V.ref b)) := by rw [dfb.2 j hj, List.getElem?_set_self hσl]
        rw [this] at hv'; cases hv'
        have S7 : OkS X.kw G0 H0 [] H' (.lst (done ++ .al (b + 1) :: rest) :: ([t'] ++ us0 ++ ts)) (.ref a :: ([V.ref b] ++ vs0 ++ vs)) (e3.set j none) σ' := OkS.mid (us := [t'] ++ us0) (ws := [V.ref b] ++ vs0) (by simp [hv0]) (by simpa using S6)
        have S8 : OkS X.kw G0 H0 [] H' (t' :: .lst (done ++ .al (b + 1) :: rest) :: (us0 ++ ts)) (V.ref b :: .ref a :: (vs0 ++ vs)) (e3.set j none) σ' := by
          exact OkS.mid (us := [.lst (done ++ .al (b + 1) :: rest)]) (ws := [V.ref a]) (x := t') (y := V.ref b) rfl S7
        exact S8.unhole
      have dd : ∀ σ', Dif sl2 (σ2.set j (some (V.ref b))) σ' → Dif ([j] ++ sl2) σ σ' := fun σ' d2 => df.two (Dif.tr Dif.set d2)
      split at l2
      · rename_i t' ht'
        have ht' : e3[j]? = some (some t') := ht'
        cases fl3 with
        | nx =>
          intro H' σ' S5 d2
          have S6 := back [] [] t' H' σ' ht' S5 rfl d2
          exact ⟨by omega, dd σ' d2, _, done ++ [t'], rest, by simp [hk], by simp; omega, by simpa using S6, l2⟩
        | ct =>
          intro H' σ' S5 d2
          have S6 := back [] [] t' H' σ' ht' S5 rfl d2
          exact ⟨by omega, dd σ' d2, _, done ++ [t'], rest, by simp [hk], by simp; omega, by simpa using S6, l2⟩
        | bk =>
          intro H' σ' S5 d2
          have S6 := back [] [] t' H' σ' ht' S5 rfl d2
          exact fin .nx _ _ H' σ' (Option.some.inj l2).symm S6 (dd σ' d2)
        | rt u =>
          intro w' H' σ' S5 d2
          have S6 := back [u] [w'] t' H' σ' ht' S5 rfl d2
          have e5 : (Fl.rt u, done ++ t' :: rest, e3.set j none) = (fl2, us2, e2) := Option.some.inj l2
          cases e5
          cases g6
          have d3 := dd σ' d2
          have h3 : σ'[i]? = some (some (.ref a)) := (d3.2 i hij).trans hv1
          have hlen : i < σ.length := (List.getElem?_eq_some_iff.mp hv1).1
          have S7 := S6.put (i := i) (by have := S6.len; rw [d3.1] at this; omega)
          rw [set_back h3] at S7
          exact q w' H' σ' S7 d3
      · cases l2
    · cases hl
end DL
namespace DL
open PySem PySem.Spec PyProof.Rows L2
section
variable {X : Cx} {a e : Expr} {ta te : TE} {fa f : EF} {npos p pos p1 p2 tpos : Pos}
end
end DL
namespace DL
open PySem PySem.Spec PyProof.Rows L2 LiI
end DL
namespace DL
open PySem PySem.Spec PyProof.Rows L2
variable {env e : Env} {i j n k : Nat} {t u : T} {ts us : List T} {d a b : D} {ds es : List D} {fa fb fc f fk fx : EF} {r : AF} {F1 F2 F : SF} {G : GF} {z w : Int} {P : List Stp} {fo : PF} {ky : Key} {kvs : List (Key × T)} {nm fn : Str} {fs : List (Str × T)} {ad : Addr} {kd : List (Key × D)} {φ : T → List D → Option (T × T)} {ψ : List D → Option T}
def kMvP2 (i : Nat) (P : List Stp) (e : Env) (u : T) : T × Env := (u, putP e i P (.al 0))
def kMvP (i : Nat) (r : List Stp × Env) : Option (T × Env) := (atP r.2 i r.1).map (kMvP2 i r.1 r.2)
theorem eMvP_q : eMvP i fo env = (fo env).bind (kMvP i) := id rfl
theorem kMvP_q : kMvP i (P, e) = (atP e i P).map (kMvP2 i P e) := id rfl
variable {kt : List (List Key × D)} {kk : List Key}
end DL
namespace DL
open PySem PySem.Spec PyProof.Rows L2
section
variable {K : KW} {G0 H0 H : Hp} {W : List (T × V)} {ts : List T} {vs : List V} {env : Env} {σ : St} {t : T} {v : V}
end
section
variable {X : Cx} {e : Expr} {te : TE} {f : EF} {lo hi : Option Expr} {tl th : TO} {fl fh : OF} {pos p2 : Pos}
end
section
variable {f : EF} {lo hi : OF} {G : GF} {F : SF} {env e e1 e2 e3 : Env} {t u : T} {us : List T} {l h : Option Int} {r : Fl × Env}
end
end DL
namespace RT
open PySem PySem.Spec PyProof.Rows
section
variable {prog : Program} {w : World} {A : Around} {E : Value → Shared → Prop} {s : Shared}
end
end RT
namespace DL
open PySem PySem.Spec PyProof.Rows L2 RT
section
variable {X : Cx}
end
end DL
namespace DL
open PySem PySem.Spec PyProof.Rows L2
section
variable {α : Type} {lt : α → α → Bool}
end
end DL
namespace DL
open PySem PySem.Spec PyProof.Rows L2
structure DPs (X : Cx) (pos : Pos) (keys : List (Option Expr)) (values : List Expr) (trs : List (TE × TE)) (ks : List Str) (f : AF) : Prop where
  pp : PPs X pos keys values trs
  ok : ∀ (G0 H0 : Hp) (W : List (T × V)) (H : Hp) (ts : List T) (vs : List V) (env : Env) (σ : St) (us : List T) (env' : Env), OkS X.kw G0 H0 W H ts vs env σ → f env = some (us, env') →
    ∀ Q : List (V × V) → Hp → Prop, (∀ ws H', Same H H' → ws.length = us.length → ks.length = us.length → OkS X.kw G0 H0 W H' (us ++ ts) (ws ++ vs) env' σ → Q (((ks.map Sum.inr).zip ws).map fun kv : Key × V => (L2.kV kv.1, kv.2)) H') → tPairs trs σ H Q
section
variable {X : Cx} {pos : Pos} {k v : Expr} {keys : List (Option Expr)} {values : List Expr} {tk tv : TE} {trs : List (TE × TE)} {ks : List Str} {key : Str} {f : EF} {fr : AF}
end
end DL
namespace DL
open PySem PySem.Spec PyProof.Rows L2
set_option maxHeartbeats 1000000 in
theorem meets_enumT (l : Addr) (xs : Array Value) :
    Meets (Builtin.«enumerate.__new__» ⟨[.type "enumerate", .ref l], []⟩) (fun _ R s => s.heap.IsTuple l xs ∧
      R (.ok (.ret (.ref (s.heap.push { cls := .type "tuple_iterator", data := .fields #[.ref l, .int 0 0] }).objs.size)))
        { s with heap := (s.heap.push { cls := .type "tuple_iterator", data := .fields #[.ref l, .int 0 0] }).push { cls := .type "enumerate", data := .fields #[.none, .bool false, .ref s.heap.objs.size, rawInt 0, .none, .none] } }) :=
  .of_wp fun prog w A R s h => by
    obtain ⟨hp, g, d, tk, os⟩ := s
    obtain ⟨hl, h⟩ := h
    have hsub := sub_enumerate
    have hL : Heap.IsTuple (Shared.heap ⟨hp, g, d, tk, os⟩) l xs := hl
    wp_walk using wpAny_pyIter_tuple hL
    refine wpAny_stack_any fun st => wpAny_pure ?_
    split
    · rename_i c _ _ _ _ _
      cases (c == Value.type "enumerate")
      · wp_walk using wpAny_pyIter_tuple hL
        exact ⟨_, rfl, h⟩
      · wp_walk using wpAny_pyIter_tuple hL
        exact ⟨_, rfl, h⟩
    · wp_walk using wpAny_pyIter_tuple hL
      exact ⟨_, rfl, h⟩
section
variable {prog : Program} {w : World} {A : Around} {E : Value → Shared → Prop} {s : Shared}
end
end DL
namespace DL
open PySem PySem.Spec PyProof.Rows L2
section
variable {X : Cx} {elt tg iter : Expr} {ifs : List Expr} {scope : Scope} {own : List (Str × Nat)} {pos spos py : Pos} {tv : TE} {fv : EF} {g : Shared → Hp → Addr → List (Str × Addr) → List Addr → TG} {G : GF} {sl : List Nat} {tt : Shared → Hp → Addr → List (Str × Addr) → List Addr → TT} {ct : CF} {te : Shared → Hp → Addr → List (Str × Addr) → List Addr → TE} {fe : EF} {i : Nat} {y : Str}
end
end DL
namespace DL
open PySem PySem.Spec PyProof.Rows L2
def EvPw (K : KW) (s : TS) (F : SF) (sl : List Nat) : Prop := ∀ (G0 H0 : Hp) (W : List (T × V)) (H : Hp) (ts : List T) (vs : List V) (env : Env) (σ : St) (fl : Fl) (env' : Env), OkS K G0 H0 W H ts vs env σ → F env = some (fl, env') →
  ∀ D : Ends, (∀ H' σ', Same H H' → OkS K G0 H0 W H' ts vs env' σ' → Dif sl σ σ' → D.nx σ' H') → s D σ H
def OnlyNx (F : SF) : Prop := ∀ env fl e, F env = some (fl, e) → fl = .nx
structure DPw (X : Cx) (st : Stmt) (s : TS) (F : SF) (sl : List Nat) : Prop where
  ps : PS X st s
  ok : EvPw X.kw s F sl
  nx : OnlyNx F
structure DPws (X : Cx) (st : List Stmt) (s : TS) (F : SF) (sl : List Nat) : Prop where
  ps : PSs X st s
  ok : EvPw X.kw s F sl
  nx : OnlyNx F
section
variable {X : Cx} {e : Expr} {st : Stmt} {sts : List Stmt} {te : TE} {tc : TT} {f : EF} {c : CF} {t u : TS} {F1 F2 : SF} {pos : Pos} {sl sl2 : List Nat}
end
end DL
namespace DL
open PySem PySem.Spec PyProof.Rows L2
def ch3 (N : Nat) : List Addr := [N + 5, N + 3, N + 4, N, N + 1, N + 2]
structure Tn3 (a b c : Addr) (N i : Nat) (h : Heap) : Prop where
  zp : IsZip h (N + 5) (N + 3) (N + 4) .none
  pI : IsTupOf3 h (N + 3) (.ref N) (.ref (N + 1 : Nat)) (.ref (N + 2 : Nat))
  pO : ∃ u v w, IsTupOf3 h (N + 4) u v w
  i1 : h.IsTupleIter N a i
  i2 : h.IsListIter (N + 1) b i
  i3 : h.IsListIter (N + 2) c i
theorem Tn3.there {a b c : Addr} {N i : Nat} {h : Heap} (S : Tn3 a b c N i h) : ∀ x ∈ ch3 N, ∃ o, h.get? x = some o ∧ ∀ v, o.data ≠ .cell v := fun x hx => by
  obtain ⟨u, v, w, pO⟩ := S.pO
  obtain ⟨o1, g1, _, d1⟩ := S.i1
  obtain ⟨o2, g2, _, d2⟩ := S.i2
  obtain ⟨o3, g3, _, d3⟩ := S.i3
  simp only [ch3, List.mem_cons, List.not_mem_nil, or_false] at hx
  rcases hx with rfl | rfl | rfl | rfl | rfl | rfl
  · exact ⟨_, S.zp, fun _ q => nomatch q⟩
  · exact ⟨_, S.pI, fun _ q => nomatch q⟩
  · exact ⟨_, pO, fun _ q => nomatch q⟩
  · exact ⟨o1, g1, fun _ q => by rw [d1] at q; cases q⟩
  · exact ⟨o2, g2, fun _ q => by rw [d2] at q; cases q⟩
  · exact ⟨o3, g3, fun _ q => by rw [d3] at q; cases q⟩
end DL
namespace DL
open PySem PySem.Spec PyProof.Rows L2
end DL
namespace DL
open PySem PySem.Spec PyProof.Rows L2
section
variable {X : Cx} {pins : List (Addr × Obj)} {σ : L2.St} {H : Hp} {s : Shared} {d : Addr} {o : Obj}
end
end DL
namespace DL
open PySem PySem.Spec PyProof.Rows L2
theorem RpKt.get {K : KW} {G : Hp} : ∀ {kvs : List (List Key × D)} {xs : List (List Key × V)}, RpKt K G kvs xs → ∀ (i : Nat) (k : List Key) (d : D), kvs[i]? = some (k, d) → ∃ v, xs[i]? = some (k, v) ∧ RpD K G d v
  | [], _, _, i, _, _, e => by simp at e
  | (k, d) :: kvs, _, ⟨v, r, h1, h2, h3⟩, 0, _, _, e => by
    simp at e; obtain ⟨rfl, rfl⟩ := e; subst h1; exact ⟨v, rfl, h2⟩
  | (k, d) :: kvs, _, ⟨v, r, h1, h2, h3⟩, i + 1, k', d', e => by
    subst h1
    obtain ⟨v', f1, f2⟩ := RpKt.get h3 i k' d' (by simpa using e)
    exact ⟨v', by simpa using f1, f2⟩
section
variable {X : Cx} {elt tg : Expr} {ifs : List Expr} {scope : Scope} {own : List (Str × Nat)} {pos spos py npos apos cpos tpos : Pos} {elts : List Expr} {kk : Nat} {x : Str} {g : Shared → Hp → Addr → List (Str × Addr) → List Addr → TG} {G : GF} {sl : List Nat} {tt : Shared → Hp → Addr → List (Str × Addr) → List Addr → TT} {ct : CF} {te : Shared → Hp → Addr → List (Str × Addr) → List Addr → TE} {fe : EF} {i : Nat} {y : Str}
end
end DL
namespace DL
open PySem PySem.Spec PyProof.Rows L2
end DL
namespace DL
open PySem PySem.Spec PyProof.Rows L2
end DL
namespace DB
open PySem PySem.Spec PyProof.Rows L2
variable {X : Cx} {o : Expr} {p pos apos mpos : Pos} {td : TE}
end DB
namespace DL
open PySem PySem.Spec PyProof.Rows L2
end DL
namespace DL
open PySem PySem.Spec PyProof.Rows L2
end DL
namespace DL
open PySem PySem.Spec PyProof.Rows L2
section
variable {K : KW}
end
section
variable {P : Program} {w : World} {K : KW} {mg : Str → Option Value} {base : Heap}
end
def Link (ls : List (Option Nat)) (ws : List V) (σ : St) : Prop := ∀ j i : Nat, ls[j]? = some (some i) → ∃ v, ws[j]? = some v ∧ σ[i]? = some (some v)
structure DAL (X : Cx) (es : List Expr) (ta : TA) (f : AF) (ls : List (Option Nat)) : Prop where
  pa : PA X es ta
  ln : ls.length = es.length
  ok : ∀ (G0 H0 H : Hp) (ts : List T) (vs : List V) (env : Env) (σ : St) (us : List T) (env' : Env), OkS X.kw G0 H0 [] H ts vs env σ → f env = some (us, env') →
    ∀ Q : List V → Hp → Prop, (∀ ws H', ws.length = us.length → ls.length = us.length → OkS X.kw G0 H0 [] H' (us ++ ts) (ws ++ vs) env' σ → Link ls ws σ → Q ws H') → ta σ H Q
section
variable {X : Cx} {e : Expr} {es : List Expr} {te : TE} {ta tr : TA} {f : EF} {fa fr : AF} {ls : List (Option Nat)} {pos p npos : Pos} {x : Str}
end
section
variable {X : Cx} {k : Nat} {f : Addr} {fd : FuncData} {ps : List Str} {φ : List T → Option (T × List T)} {x : Str} {p pos : Pos} {e a b : Expr} {es : List Expr} {te ta tb : TE} {tr : TA} {fa : AF} {ls : List (Option Nat)} {g f1 f2 : EF}
end
def EvCX (K : KW) (tc : TT) (c : CF) : Prop := ∀ (G0 H0 H : Hp) (ts : List T) (vs : List V) (env : Env) (σ : St) (b : Bool) (env' : Env), OkS K G0 H0 [] H ts vs env σ → c env = some (b, env') →
  ∀ Q : Bool → Hp → Prop, (∀ H', OkS K G0 H0 [] H' ts vs env' σ → Q b H') → tc σ H Q
structure DCX (X : Cx) (e : Expr) (tc : TT) (c : CF) : Prop where
  pt : PT X e tc
  ok : EvCX X.kw tc c
structure DWX (X : Cx) (e : Expr) (tc : TT) (c : CF) : Prop where
  pt : PW X e tc
  ok : EvCX X.kw tc c
section
variable {X : Cx} {a b e : Expr} {rest : List Expr} {ta tb te : TE} {tc td : TT} {c d : CF} {f f1 f2 : EF} {pos : Pos}
theorem EvX.test {K : KW} (h : EvX K te f) : EvCX K (tTest te) (cT f) := by
  intro G0 H0 H ts vs env σ b env' S e Q q
  obtain ⟨⟨x, e2⟩, g3, g4⟩ := obind e
  have hx : x = .p (.bl b) ∧ e2 = env' := by
    cases x with
    | p d => cases d with
      | bl c => cases g4; exact ⟨rfl, rfl⟩
      | _ => cases g4
    | _ => cases g4
  obtain ⟨rfl, rfl⟩ := hx
  exact h _ _ _ _ _ _ _ _ _ S g3 _ fun v H' S1 => ⟨b, S1.top, q H' S1.pop⟩
end
end DL
namespace DL
open PySem PySem.Spec PyProof.Rows L2
end DL
namespace DL
open PySem PySem.Spec PyProof.Rows L2
def backW (i j : Nat) (ws : List Nat) (P : List Stp) (a : Addr) (s : Fl × Env) : Option (Fl × Env) := (backP i j P a s).map fun r => (r.1, wipeE r.2 ws)
open Classical in
noncomputable def sAlW (j i : Nat) (ws : List Nat) (fo : PF) (F : SF) : SF := fun env => (fo env).bind fun r => (atP r.2 i r.1).bind fun u => if isR u = true ∧ j < r.2.length then
  (if h : ∃ z, ∀ a : Addr, ((F ((putP r.2 i r.1 (.al (a + 1))).set j (some u))).bind (backW i j ws r.1 a)) = some z then some h.choose else none) else none
end DL
namespace DL
open PySem PySem.Spec PyProof.Rows L2
section
variable {X : Cx} {elt tg : Expr} {ifs : List Expr} {scope : Scope} {own : List (Str × Nat)} {pos spos py npos apos cpos tpos : Pos} {elts : List Expr} {kk : Nat} {x : Str} {g : Shared → Hp → Addr → List (Str × Addr) → List Addr → TG} {G : GF} {sl : List Nat} {tt : Shared → Hp → Addr → List (Str × Addr) → List Addr → TT} {ct : CF} {te : Shared → Hp → Addr → List (Str × Addr) → List Addr → TE} {fe : EF} {i : Nat} {y : Str}
end
end DL
namespace DL
open PySem PySem.Spec PyProof.Rows L2
section
variable {X : Cx} {elt tg : Expr} {ifs : List Expr} {scope : Scope} {own : List (Str × Nat)} {pos spos py npos apos cpos tpos : Pos} {elts : List Expr} {kk : Nat} {x : Str} {g : Shared → Hp → Addr → List (Str × Addr) → List Addr → TG} {G : GF} {sl : List Nat} {tt : Shared → Hp → Addr → List (Str × Addr) → List Addr → TT} {ct : CF} {te : Shared → Hp → Addr → List (Str × Addr) → List Addr → TE} {fe : EF} {i j : Nat} {y : Str}
end
end DL
namespace DL
open PySem PySem.Spec PyProof.Rows L2
section
variable {X : Cx} {k : Nat} {f : Addr} {fd : FuncData} {ps : List Str} {n : Nat} {φ : List D → Option T} {x : Str} {p npos pos : Pos} {e a b : Expr} {es : List Expr} {ta tb tr : TA} {fa fb fr : AF}
end
section
variable {X : Cx} {a b : Expr} {ta tb : TE} {fa fb : EF} {pos : Pos}
end
def EvIX (K : KW) (wi : TI) (f : IF) : Prop := ∀ (G0 H0 : Hp) (H : Hp) (ts : List T) (vs : List V) (env : Env) (σ : St) (ds : List D) (env' : Env), OkS K G0 H0 [] H ts vs env σ → f env = some (ds, env') →
  ∀ R : It → Hp → Prop, (∀ J H' G1, Gst G0 H0 G1 → ItOk K G1 J ds → OkS K G1 H0 [] H' ts vs env' σ → R J H') → wi σ H R
structure DIX (X : Cx) (tg it : Expr) (wi : TI) (f : IF) : Prop where
  pi : PI X tg it wi
  ok : EvIX X.kw wi f
end DL
namespace DL
open PySem PySem.Spec PyProof.Rows L2
section
variable {X : Cx} {e o k : Expr} {te to tk : TE} {f fk : EF} {fo : PF} {i : Nat} {pos ipos tpos : Pos}
end
end DL
namespace DL
open PySem PySem.Spec PyProof.Rows L2
section
variable {K : KW} {G0 H0 H : Hp} {W : List (T × V)} {ts us : List T} {vs : List V} {env : Env} {σ : St} {v : V}
end
end DL
namespace DL
open PySem PySem.Spec PyProof.Rows L2
end DL
namespace DL
open PySem PySem.Spec PyProof.Rows L2
section
variable {X : Cx} {e o k : Expr} {te to tk : TE} {f fk : EF} {fo : PF} {i : Nat} {pos cpos apos ipos tpos : Pos}
end
end DL
namespace DL
open PySem PySem.Spec PyProof.Rows L2
section
variable {X : Cx} {a : Expr} {ta : TE} {fa : EF} {npos pos : Pos}
end
end DL
namespace DL
open PySem PySem.Spec PyProof.Rows L2
def EvJ (K : KW) (wi : TI) (f : IF) : Prop := ∀ (G0 H0 : Hp) (H : Hp) (ts : List T) (vs : List V) (env : Env) (σ : St) (ds : List D) (env' : Env), OkS K G0 H0 [] H ts vs env σ → f env = some (ds, env') →
  ∀ R : It → Hp → Prop, (∀ J H' G1, Gst G0 H0 G1 → ItOk K G1 J ds → OkS K G1 H0 [] H' ts vs env' σ → R J H') → wi σ H R
structure DJ (X : Cx) (tg it : Expr) (wi : TI) (f : IF) : Prop where
  pi : PI X tg it wi
  ok : EvJ X.kw wi f
end DL
namespace DL
open PySem PySem.Spec PyProof.Rows L2
end DL
set_option maxHeartbeats 2000000
namespace DL
open PySem PySem.Spec PyProof.Rows L2 L2.DX PySem.W
end DL
namespace DL
open PySem PySem.Spec PyProof.Rows L2 L2.DX
theorem OkS.ext {K : KW} {G0 H0 H H' : Hp} {W : List (T × V)} {ts : List T} {vs : List V} {env : Env} {σ : L2.St} (S : OkS K G0 H0 W H ts vs env σ) (e : Same H H') : OkS K G0 H0 W H' ts vs env σ := by
  obtain ⟨G, ot, oe, s⟩ := S
  have th : ∀ a ∈ ot ++ oe, H' a = H a := fun a ha => by
    obtain ⟨x, ex, _⟩ : ∃ x, H a = some x ∧ ¬ Fix x := by
      rcases List.mem_append.mp ha with h | h
      · exact s.tmp.there _ a h
      · exact s.env.there _ a h
    rw [ex]; exact e _ _ ex
  exact ⟨G, ot, oe, s.tmp.mono (Same.refl _) _ fun a h => th a (by simp [h]), s.env.mono (Same.refl _) _ fun a h => th a (by simp [h]), s.nd, s.fr, s.g0, s.gh.trans e, s.h0.trans e, s.nw, fun q hq => by
    obtain ⟨o, r⟩ := s.vw q hq
    exact ⟨o, r.mono (Same.refl _) _ fun a ha => by
      obtain ⟨x, ex, _⟩ := r.there _ a ha
      rw [ex]; exact e _ _ ex⟩⟩
end DL
namespace DL
open PySem PySem.Spec PyProof.Rows L2
section
variable {X : Cx} {tg e o ei : Expr} {te to ti : TE} {ta : TA} {f : EF} {fa : AF} {fo : PF} {i : Nat} {p pos apos cpos : Pos}
end
end DL
namespace DL
open PySem PySem.Spec PyProof.Rows L2
section
variable {X : Cx} {e e2 : Expr} {te : TE} {ta : TA} {f : EF} {fa : AF} {p pos tpos : Pos} {elts : List Expr} {kk : Nat}
end
section
variable {X : Cx} {e : Expr} {te : TE} {f : EF} {p pos : Pos}
end
end DL
namespace ZG
open PySem PySem.Spec PyProof.Rows L2
open PySem.Sem (wp)
def SqB (K : PySem.W.Frag) (H : Hp) (a : Addr) (xs : List V) : Bool → Prop
  | false => SqL K H a xs
  | true => SqT K H a xs
def ArB (h : Heap) (a : Addr) (xs : Array Value) : Bool → Prop
  | false => h.IsList a xs
  | true => h.IsTuple a xs
def ItB (h : Heap) (it a : Addr) (k : Nat) : Bool → Prop
  | false => h.IsListIter it a k
  | true => h.IsTupleIter it a k
theorem SqB.mono {K : PySem.W.Frag} {G H : Hp} {a : Addr} {xs : List V} {b : Bool} (s : Same G H) (h : SqB K G a xs b) : SqB K H a xs b := by
  cases b with
  | false => exact s.seq h
  | true => exact DL.Same.sqT s h
theorem ArB.at {h h' : Heap} {a : Addr} {xs : Array Value} {b : Bool} (x : ArB h a xs b) (e : ∀ o, h.get? a = some o → h'.get? a = some o) : ArB h' a xs b := by
  cases b with
  | false => exact Heap.IsList.at x e
  | true => exact Heap.IsTuple.at x e
theorem ItB.at {h h' : Heap} {it a : Addr} {k : Nat} {b : Bool} (x : ItB h it a k b) (e : ∀ o, h.get? it = some o → h'.get? it = some o) : ItB h' it a k b := by
  cases b with
  | false => exact Heap.IsListIter.at x e
  | true => exact Heap.IsTupleIter.at x e
theorem ItB.there {h : Heap} {it a : Addr} {k : Nat} {b : Bool} (x : ItB h it a k b) : ∃ o, h.get? it = some o ∧ ∀ v, o.data ≠ .cell v := by
  cases b with
  | false => obtain ⟨o, g, _, d⟩ := x; exact ⟨o, g, fun _ q => by rw [d] at q; cases q⟩
  | true => obtain ⟨o, g, _, d⟩ := x; exact ⟨o, g, fun _ q => by rw [d] at q; cases q⟩
structure StB (p q : Bool) (a b : Addr) (n k : Nat) (h : Heap) : Prop where
  zp : IsZip h (n + 4) (n + 2) (n + 3) .none
  pI : IsPair h (n + 2) (.ref n) (.ref (n + 1))
  pO : ∃ u v, IsPair h (n + 3) u v
  i1 : ItB h n a k p
  i2 : ItB h (n + 1) b k q
theorem StB.there {p q : Bool} {a b : Addr} {n k : Nat} {h : Heap} (S : StB p q a b n k h) : ∀ c ∈ chainZ n, ∃ o, h.get? c = some o ∧ ∀ v, o.data ≠ .cell v := fun c hc => by
  obtain ⟨u, v, pO⟩ := S.pO
  simp only [chainZ, List.mem_cons, List.not_mem_nil, or_false] at hc
  rcases hc with rfl | rfl | rfl | rfl | rfl
  · exact ⟨_, S.zp, fun _ q => nomatch q⟩
  · exact ⟨_, S.pI, fun _ q => nomatch q⟩
  · exact ⟨_, pO, fun _ q => nomatch q⟩
  · exact S.i1.there
  · exact S.i2.there
theorem ArB.push {h : Heap} {a : Addr} {xs : Array Value} {b : Bool} (x : ArB h a xs b) (o : Obj) : ArB (h.push o) a xs b := x.at fun _ e => Heap.get?_push_of_some _ e
end ZG
namespace DL
open PySem PySem.Spec PyProof.Rows L2
section
variable {K : DL.KW} {G1 : Hp}
end
section
variable {X : Cx} {tg e e2 : Expr} {ta : TA} {fa : AF} {p pos tpos : Pos} {elts : List Expr} {kk : Nat}
end
end DL
namespace DL
open PySem PySem.Spec PyProof.Rows L2
end DL
set_option maxHeartbeats 1000000
namespace DL
open PySem PySem.Spec PyProof.Rows L2
section
variable {P : Program} {w : World} {K : KW} {mg : Str → Option Value} {base : Heap}
end
section
variable {X : Cx} {nm : Str} {e : Expr} {es : List Expr} {ta : TA} {fa : AF} {p pos : Pos} {x : Str} {C f : Addr} {k n : Nat} {fd : FuncData} {ps : List Str} {φ : T → List T → Option (T × T)}
end
end DL
set_option maxHeartbeats 2000000
namespace DL
open PySem PySem.Spec PyProof.Rows L2
end DL
namespace DL
open PySem PySem.Spec PyProof.Rows L2
@[irreducible] def fuelW : Nat := 1000000
end DL
namespace DL
open PySem PySem.Spec PyProof.Rows L2
section
variable {X : Cx} {a b : Expr} {ta tb : TE} {fa fb : EF} {pos : Pos}
end
end DL
namespace DL
open PySem PySem.Spec PyProof.Rows L2
end DL
namespace DL
open PySem PySem.Spec PyProof.Rows L2
def mergeKt (kvs more : List (List Key × V)) : List (List Key × V) := more.foldl (fun acc kv => putK acc kv.1 kv.2) kvs
def mergeDt (kvs more : List (List Key × D)) : List (List Key × D) := more.foldl (fun acc kv => putDt acc kv.1 kv.2) kvs
theorem RpKt.merge {K : KW} {G : Hp} : ∀ {more : List (List Key × D)} {ys : List (List Key × V)} {kvs : List (List Key × D)} {xs : List (List Key × V)}, RpKt K G kvs xs → RpKt K G more ys → RpKt K G (mergeDt kvs more) (mergeKt xs ys)
  | [], _, _, _, h, h' => by rw [show _ = _ from h']; exact h
  | (k, d) :: more, _, _, _, h, ⟨v, r, h1, h2, h3⟩ => by
    subst h1
    have := RpKt.merge (h.put (k := k) h2) h3
    exact this
section
variable {X : Cx} {e : Expr} {te : TE} {f : EF} {p pos : Pos}
end
end DL
set_option maxHeartbeats 1000000
namespace DL
open PySem PySem.Spec PyProof.Rows L2
abbrev NK := NestedKey
section
variable {P : Program} {w : World} {H : Hp} {h : Heap}
def NKs (H : Hp) (ws : List (NK × Addr × V)) : Prop := ∀ x ∈ ws, x.1.depth ≤ 8 ∧ NkV H x.1 (.ref x.2.1)
abbrev NR : List (NK × Addr × V) → List (NK × Addr × Value) → Prop := Paired fun p q => p.1 = q.1 ∧ p.2.1 = q.2.1 ∧ RelV p.2.2 q.2.2
end
def valN (ws : List (NK × Addr × V)) (k : NK) : Option V := (ws.find? fun x => decide (x.1 = k)).map (·.2.2)
def putW (ws : List (NK × Addr × V)) (k : NK) (b : Addr) (v : V) : List (NK × Addr × V) := if (ws.any fun x => decide (x.1 = k)) = true then ws.map (fun x => if x.1 = k then (x.1, x.2.1, v) else x) else ws ++ [(k, b, v)]
theorem valN_any (ws : List (NK × Addr × V)) (k : NK) : (ws.any fun x => decide (x.1 = k)) = (valN ws k).isSome := by
  induction ws with
  | nil => rfl
  | cons x ws ih =>
    by_cases c : x.1 = k
    · simp [valN, List.find?_cons, c]
    · simp [valN, List.find?_cons, c] at ih ⊢
      exact ih
theorem NR.val {ws : List (NK × Addr × V)} {xs : List (NK × Addr × Value)} (r : NR ws xs) (k : NK) : RelO (valN ws k) ((atKey xs k).map (·.2)) := by
  induction r with
  | nil => exact True.intro
  | @cons p q ps qs h t ih =>
    obtain ⟨h1, _, h2⟩ := h
    by_cases e : p.1 = k
    · have e' : q.1 = k := h1.symm.trans e
      have b : atKey (q :: qs) k = some q.2 := by simp [atKey, List.find?_cons, e']
      have c : valN (p :: ps) k = some p.2.2 := by simp [valN, List.find?_cons, e]
      rw [c, b]; exact h2
    · have e' : ¬ q.1 = k := fun z => e (h1.trans z)
      have b : atKey (q :: qs) k = atKey qs k := by simp [atKey, List.find?_cons, e']
      have c : valN (p :: ps) k = valN ps k := by simp [valN, List.find?_cons, e]
      rw [c, b]; exact ih
theorem NR.repl {ws : List (NK × Addr × V)} {xs : List (NK × Addr × Value)} (r : NR ws xs) (k : NK) {y : V} {u : Value} (ry : RelV y u) : NR (ws.map fun x => if x.1 = k then (x.1, x.2.1, y) else x) (xs.map (putAt k u)) := by
  induction r with
  | nil => exact .nil
  | @cons p q ps qs h t ih =>
    rw [List.map_cons, List.map_cons]
    refine .cons ?_ ih
    obtain ⟨h1, h2, h3⟩ := h
    unfold putAt
    by_cases e : p.1 = k
    · rw [if_pos e, if_pos (h1.symm.trans e)]; exact ⟨h1, h2, ry⟩
    · rw [if_neg e, if_neg (fun z => e (h1.trans z))]; exact ⟨h1, h2, h3⟩
theorem NR.put {ws : List (NK × Addr × V)} {xs : List (NK × Addr × Value)} (r : NR ws xs) (k : NK) (b : Addr) {y : V} {u : Value} (ry : RelV y u) : NR (putW ws k b y) (storedH xs k b u) := by
  have e : (ws.any fun x => decide (x.1 = k)) = (atKey xs k).isSome := by
    rw [valN_any, (r.val k).isSome_eq, Option.isSome_map]
  unfold putW storedH
  rw [e]
  by_cases q : (atKey xs k).isSome = true
  · rw [if_pos q, if_pos q]; exact r.repl k ry
  · rw [if_neg q, if_neg q]; exact Paired.snoc r ⟨rfl, rfl, ry⟩
section
variable {X : Cx} {pins : List (Addr × Obj)} {σ : St} {H : Hp} {s : Shared} {a : Addr} {y v : V} {u r : Value} {o : Option V} {E : Value → Shared → Prop}
end
section
variable {X : Cx} {o i e value : Expr} {pos pos' tpos : Pos} {td ty tv : TE}
end
end DL
namespace DL
open PySem PySem.Spec PyProof.Rows L2
section
variable {X : Cx} {k v : Expr} {tk tv : TE} {pos : Pos}
end
mutual
def nkD : D → Option NK
  | .non => some .none
  | .bl b => some (.num (if b = true then 1 else 0))
  | .int i => some (.num i)
  | .str x => some (.text x)
  | .tup ds => (nkDs ds).map .tup
  | .tux ds => (nkDs ds).map .tup
  | _ => none
def nkDs : List D → Option (List NK)
  | [] => some []
  | d :: ds => (nkD d).bind fun k => (nkDs ds).map (k :: ·)
end
def valDn (kvs : List (NK × D)) (k : NK) : Option D := (kvs.find? fun kv => decide (kv.1 = k)).map (·.2)
def putDn (kvs : List (NK × D)) (k : NK) (d : D) : List (NK × D) := if (kvs.any fun kv => decide (kv.1 = k)) = true then kvs.map (fun kv => if kv.1 = k then (kv.1, d) else kv) else kvs ++ [(k, d)]
section
variable {K : KW} {G : Hp}
theorem RpKn.keys : ∀ {kvs : List (NK × D)} {ws : List (NK × Addr × V)}, RpKn K G kvs ws → NKs G ws
  | [], _, h => by rw [show _ = [] from h]; intro x hx; cases hx
  | (k, d) :: r, _, ⟨b, v, s, e, h1, h2, _, h3⟩ => by
    subst e
    intro x hx
    rcases List.mem_cons.mp hx with e | hx
    · subst e; exact ⟨h1, h2⟩
    · exact RpKn.keys h3 x hx
theorem RpKn.length : ∀ {kvs : List (NK × D)} {ws : List (NK × Addr × V)}, RpKn K G kvs ws → ws.length = kvs.length
  | [], _, h => by rw [show _ = [] from h]; rfl
  | (k, d) :: r, _, ⟨b, v, s, e, h1, h2, _, h3⟩ => by subst e; simp [RpKn.length h3]
theorem RpKn.any (k : NK) : ∀ {kvs : List (NK × D)} {ws : List (NK × Addr × V)}, RpKn K G kvs ws → (ws.any fun x => decide (x.1 = k)) = kvs.any fun kv => decide (kv.1 = k)
  | [], _, h => by rw [show _ = [] from h]; rfl
  | (j, d) :: r, _, ⟨b, v, s, e, h1, h2, _, h3⟩ => by subst e; rw [List.any_cons, List.any_cons, RpKn.any k h3]
theorem RpKn.val (k : NK) : ∀ {kvs : List (NK × D)} {ws : List (NK × Addr × V)}, RpKn K G kvs ws → (valDn kvs k = none → valN ws k = none) ∧ ∀ d, valDn kvs k = some d → ∃ v, valN ws k = some v ∧ RpD K G d v
  | [], _, h => by rw [show _ = [] from h]; exact ⟨fun _ => rfl, fun d h => (nomatch h)⟩
  | (j, e) :: r, _, ⟨b, w, r', h1, h5, h6, h2, h3⟩ => by
    subst h1
    by_cases c : j = k
    · have e1 : valDn ((j, e) :: r) k = some e := by simp [valDn, List.find?_cons, c]
      have e2 : valN ((j, b, w) :: r') k = some w := by simp [valN, List.find?_cons, c]
      rw [e1, e2]
      exact ⟨fun h => (nomatch h), fun d h => by cases h; exact ⟨w, rfl, h2⟩⟩
    · have e1 : valDn ((j, e) :: r) k = valDn r k := by simp [valDn, List.find?_cons, c]
      have e2 : valN ((j, b, w) :: r') k = valN r' k := by simp [valN, List.find?_cons, c]
      rw [e1, e2]
      exact RpKn.val k h3
theorem RpKn.upd (k : NK) {d : D} {v : V} (hv : RpD K G d v) : ∀ {kvs : List (NK × D)} {ws : List (NK × Addr × V)}, RpKn K G kvs ws → RpKn K G (kvs.map (fun kv => if kv.1 = k then (kv.1, d) else kv)) (ws.map (fun x => if x.1 = k then (x.1, x.2.1, v) else x))
  | [], _, h => by rw [show _ = [] from h]; exact rfl
  | (j, e) :: r, _, ⟨b, w, r', h1, h5, h6, h2, h3⟩ => by
    subst h1
    rw [List.map_cons, List.map_cons]
    have ih := RpKn.upd k hv h3
    by_cases c : j = k
    · rw [if_pos c, if_pos c]; exact ⟨b, v, _, rfl, h5, h6, hv, ih⟩
    · rw [if_neg c, if_neg c]; exact ⟨b, w, _, rfl, h5, h6, h2, ih⟩
theorem RpKn.app {k : NK} {b : Addr} {d : D} {v : V} (hd : k.depth ≤ 8) (hb : NkV G k (.ref b)) (hv : RpD K G d v) : ∀ {kvs : List (NK × D)} {ws : List (NK × Addr × V)}, RpKn K G kvs ws → RpKn K G (kvs ++ [(k, d)]) (ws ++ [(k, b, v)])
  | [], _, h => by rw [show _ = [] from h]; exact ⟨b, v, [], rfl, hd, hb, hv, rfl⟩
  | (j, e) :: r, _, ⟨c, w, r', h1, h5, h6, h2, h3⟩ => by subst h1; exact ⟨c, w, _, rfl, h5, h6, h2, RpKn.app hd hb hv h3⟩
theorem RpKn.put {k : NK} {b : Addr} {d : D} {v : V} (hd : k.depth ≤ 8) (hb : NkV G k (.ref b)) (hv : RpD K G d v) {kvs : List (NK × D)} {ws : List (NK × Addr × V)} (h : RpKn K G kvs ws) : RpKn K G (putDn kvs k d) (putW ws k b v) := by
  unfold putDn putW
  rw [h.any k]
  split
  · exact h.upd k hv
  · exact h.app hd hb hv
end
def dinT : T → Option (List (NK × D))
  | .p (.din kvs) => some kvs
  | .din kvs => some kvs
  | _ => none
theorem RpKn.all {K : KW} {G : Hp} {kvs : List (NK × D)} {ws : List (NK × Addr × V)} {H : Hp} (s : Same G H) (h : RpKn K G kvs ws) : NKs H ws := fun x hx => ⟨(h.keys x hx).1, NkV.mono s _ (h.keys x hx).2⟩
theorem St0.din {K : KW} {G0 H0 G H : Hp} {W : List (T × V)} {ts : List T} {vs : List V} {env : Env} {σ : St} {ot oe : List Addr} {t : T} {v : V} {ds : List (NK × D)} (s : St0 K G0 H0 W G H ts vs env σ ot oe) (hq : (t, v) ∈ W) (h : dinT t = some ds) :
    ∃ a ws, v = .ref a ∧ Rd H a (nHO K a ws) ∧ RpKn K G ds ws := by
  obtain ⟨o, r⟩ := s.vw (t, v) hq
  cases t with
  | p d =>
    cases d with
    | din kvs =>
      cases h
      obtain ⟨⟨a, ws, e1, e2, e3⟩, _⟩ := r
      exact ⟨a, ws, e1, Same.rd s.gh e2, e3⟩
    | _ => cases h
  | din kvs =>
    cases h
    obtain ⟨a, ws, e1, e2, e3, _⟩ := r
    exact ⟨a, ws, e1, .inl e2, e3⟩
  | _ => cases h
section
variable {X : Cx} {o i x : Expr} {to ti tx : TE} {fo fi fx : EF} {pos apos : Pos}
end
section
variable {X : Cx} {e o k : Expr} {te to tk : TE} {f fk : EF} {fo : PF} {i : Nat} {pos ipos : Pos}
end
section
variable {X : Cx} {k v e : Expr} {tk tv te : TE} {fk fv f : EF} {pos npos : Pos}
end
end DL
namespace DL
open PySem PySem.Spec PyProof.Rows L2
section
variable {X : Cx} {o e : Expr} {to te : TE} {f : EF} {fo : PF} {i : Nat} {pos cpos apos : Pos}
end
theorem RpTs.at {K : KW} {G H : Hp} : ∀ {us : List T} {j : Nat} {t : T} {xs : List V} {o : List Addr}, RpTs K G H us xs o → us[j]? = some t → ∃ y o1 rest, xs[j]? = some y ∧ Rp K G H t y o1 ∧ o.Perm (o1 ++ rest)
  | [], _, _, _, _, _, e => by simp at e
  | u :: us, 0, t, _, _, ⟨v, r, o1, o2, h1, h2, h3, h4⟩, e => by
    simp at e; subst e; subst h1
    exact ⟨v, o1, o2, rfl, h2, by rw [h4]⟩
  | u :: us, j + 1, t, _, _, ⟨v, r, o1, o2, h1, h2, h3, h4⟩, e => by
    subst h1
    obtain ⟨y, o3, rest, k1, k2, k3⟩ := RpTs.at (j := j) h3 (by simpa using e)
    refine ⟨y, o3, o1 ++ rest, by simpa using k1, k2, ?_⟩
    rw [h4]
    exact (List.Perm.append_left o1 k3).trans (perm_mid o1 o3 rest)
theorem OkS.item {K : KW} {G0 H0 H : Hp} {W : List (T × V)} {ts us : List T} {vs : List V} {env : Env} {σ : St} {v : V} {i : Int} {t : T} (S : OkS K G0 H0 W H (.tup us :: ts) (v :: vs) env σ) (hi : atI us i = some t) :
    ∃ a xs y, v = .ref a ∧ SqT K H a xs ∧ atI xs i = some y ∧ OkS K G0 H0 W H (t :: ts) (y :: vs) env σ := by
  obtain ⟨G, ot, oe, s⟩ := S
  obtain ⟨v0, r0, o1, o2, e0, ⟨a, xs, e1, e2, e3⟩, e4, e5⟩ := s.tmp
  cases e0
  obtain ⟨j, k1, k2⟩ := atI_ix hi
  obtain ⟨y, o3, rest, k3, k4, k5⟩ := e3.at k2
  have pm : (ot ++ oe).Perm ((o3 ++ o2 ++ oe) ++ rest) := by
    rw [e5]
    have q1 : ((o1 ++ o2) ++ oe).Perm (((o3 ++ rest) ++ o2) ++ oe) := List.Perm.append_right _ (List.Perm.append_right _ k5)
    refine q1.trans ?_
    exact List.perm_iff_count.mpr fun x => by simp only [List.count_append]; omega
  have nd := pm.nodup_iff.mp s.nd
  refine ⟨a, xs, y, e1, Same.sqT s.gh (tup_sq e2), atI_of k1 e3.len k3, G, o3 ++ o2, oe, ⟨y, _, o3, o2, rfl, k4, e4, rfl⟩, s.env, (List.nodup_append.mp nd).1, fun b hb => s.fr b (pm.mem_iff.mpr (List.mem_append_left _ hb)), s.g0, s.gh, s.h0, s.nw, s.vw⟩
section
variable {X : Cx} {a b : Expr} {ta tb : TE} {fa fb : EF} {pos : Pos}
end
section
variable {X : Cx} {o i : Expr} {to ti : TE} {fo fi : EF} {pos : Pos}
end
end DL
namespace DL
open PySem PySem.Spec PyProof.Rows L2
end DL
namespace DL
open PySem PySem.Spec PyProof.Rows L2
section
variable {X : Cx}
end
end DL
namespace DL
open PySem PySem.Spec PyProof.Rows L2
def frzE (env : Env) : Env := env.map (Option.map fun t => T.p t.toD)
theorem RpE.frz {K : KW} {G H : Hp} (e : Same G H) : ∀ (es : Env) {σ : St} {o : List Addr}, RpE K G H es σ o → RpE K H H (frzE es) σ []
  | [], _, _, h => ⟨h.1, rfl⟩
  | none :: es, _, _, ⟨x, r, h1, h2⟩ => ⟨x, r, h1, RpE.frz e es h2⟩
  | some t :: es, _, _, ⟨v, r, o1, o2, h1, h2, h3, h4⟩ => ⟨v, r, [], [], h1, ⟨h2.flat e (fun _ _ => rfl) t, rfl⟩, RpE.frz e es h3, rfl⟩
def EvPr (K : KW) (s : TS) (F : SF) (sl : List Nat) : Prop := ∀ (G0 H0 : Hp) (W : List (T × V)) (H : Hp) (ts : List T) (vs : List V) (env : Env) (σ : St) (fl : Fl) (env' : Env), OkS K G0 H0 W H ts vs env σ → F env = some (fl, env') →
  ∀ D : Ends, (fl = .nx → ∀ H' σ', Same H H' → OkS K G0 H0 W H' ts vs env' σ' → Dif sl σ σ' → D.nx σ' H') → (∀ t, fl = .rt t → ∀ v H' σ', OkS K G0 H0 [] H' (t :: ts) (v :: vs) env' σ' → Dif sl σ σ' → D.rt v H') → s D σ H
def OnlyNr (F : SF) : Prop := ∀ env fl e, F env = some (fl, e) → fl = .nx ∨ ∃ t, fl = .rt t
structure DPr (X : Cx) (st : List Stmt) (s : TS) (F : SF) (sl : List Nat) : Prop where
  ps : PSs X st s
  ok : EvPr X.kw s F sl
  nr : OnlyNr F
section
variable {X : Cx} {e : Expr} {st : Stmt} {sts : List Stmt} {te : TE} {tc : TT} {f : EF} {c : CF} {t u : TS} {F1 F2 : SF} {pos : Pos} {sl sl2 : List Nat}
end
end DL
namespace DL
open PySem PySem.Spec PyProof.Rows L2
end DL
namespace DL
open PySem PySem.Spec PyProof.Rows L2
section
variable {K : KW} {G0 H0 H : Hp} {ts tt : List T} {vs : List V} {env : Env} {σ : St} {t : T} {v : V} {n : Nat}
def lostT (env : Env) (j : Nat) : T := match env[j]? with
  | some (some t) => t
  | _ => .al 0
theorem OkS.lost {j : Nat} (S : OkS K G0 H0 [] H ts vs env σ) (hv : σ[j]? = some (some v)) (hl : j < env.length) : OkS K G0 H0 [] H (lostT env j :: ts) (v :: vs) (env.set j none) σ := by
  unfold lostT
  split
  · rename_i t e
    obtain ⟨v', hv', S1⟩ := S.get e
    rw [hv] at hv'; cases hv'
    exact S1
  · rename_i hne
    have e0 : env.set j none = env := by
      refine List.ext_getElem? fun k => ?_
      by_cases c : j = k
      · subst c
        rw [List.getElem?_set_self hl]
        cases q : env[j]? with
        | none => rw [List.getElem?_eq_getElem hl] at q; cases q
        | some x =>
          cases x with
          | none => rfl
          | some t => exact absurd q (hne t)
      · rw [List.getElem?_set_ne c]
    rw [e0]
    obtain ⟨G, ot, oe, s⟩ := S
    exact ⟨G, ot, oe, ⟨v, vs, [], ot, rfl, ⟨fun h => absurd rfl h, rfl⟩, s.tmp, rfl⟩, s.env, s.nd, s.fr, s.g0, s.gh, s.h0, s.nw, s.vw⟩
end
end DL
namespace DL
open PySem PySem.Spec PyProof.Rows L2
end DL
namespace DL
open PySem PySem.Spec PyProof.Rows L2
def gTupL (K : PySem.W.Frag) (n : Nat) (t : TGs) : TG := fun v σ H Q => ∃ a xs, v = .ref a ∧ SqL K H a xs ∧ xs.length = n ∧ t xs σ H Q
theorem pg_tupL {X : Cx} {pos : Pos} {es : List Expr} {k : Nat} {t : TGs} {n : Nat} (hc : X.calm = true) (h : PGs X es t)
    (hn : (assignEach es X.env).length = n := by rfl) (hst : (assignEach es X.env).findIdx? (·.1) = none := by rfl) : PG X (.Tuple es k pos) (gTupL X.K n t) := by
  refine ⟨fun pins s σ H v u Q I r hw => ?_⟩
  obtain ⟨a, xs, e1, hq, hl, hw⟩ := hw
  subst e1
  cases r
  obtain ⟨its, rv, ht, hz⟩ := I.list hq
  rw [assign_Tuple]
  refine wpAny_bind (wpAny_standAt ?_)
  unfold unpack
  rw [show (assignEach es X.env).length = its.toArray.size by simp [hn, ← hl, rv.length], hst]
  refine wpAny_bind (wpAny_holding (PySem.W.kun_itemsOf (I.ok.hd hc) ht.isList fun h' hx => ?_))
  have I1 : Inv X pins σ H { s with heap := h' } := I.kept (t' := s.toks) fun b o e => hx b o (Nat.ne_of_lt (Heap.lt_size e)) e
  exact h.run pins _ σ H xs _ Q I1 (by simpa using rv) hw
def gTpL (n : Nat) (g : GsF) : GF := fun d env => match d with
  | .p (.lst ds) => if ds.length = n then g (ds.map T.p) env else none
  | _ => none
theorem dg_tupL {X : Cx} {es : List Expr} {gs : TGs} {Gs : GsF} {pos : Pos} {k n : Nat} {sl : List Nat} (hc : X.calm = true) (h : DGs X es gs Gs sl) (hn : (assignEach es X.env).length = n := by rfl) (hst : (assignEach es X.env).findIdx? (·.1) = none := by rfl) : DG X (.Tuple es k pos) (gTupL X.K n gs) (gTpL n Gs) sl := by
  refine ⟨pg_tupL hc h.pg hn hst, ?_⟩
  intro G0 H0 W H ts vs env σ d x env' S e Q q
  unfold gTpL at e
  split at e
  · rename_i ds
    split at e
    · rename_i hl
      obtain ⟨G, ot, oe, s⟩ := S
      obtain ⟨u, r, o1, o2, h1, ⟨⟨a, xs, e1, e2, e3⟩, e4⟩, h3, h4⟩ := s.tmp
      cases h1
      subst e4
      have S' : OkS X.kw G0 H0 W H (ds.map T.p ++ ts) (xs ++ vs) env σ := ⟨G, ot, oe, by rw [h4]; exact (rpTs_p e3).append h3, s.env, s.nd, s.fr, s.g0, s.gh, s.h0, s.nw, s.vw⟩
      have hxl : xs.length = (ds.map T.p).length := by rw [List.length_map]; exact e3.len
      refine ⟨a, xs, e1, .inl (Same.rd s.gh e2), hxl.trans (by rw [List.length_map]; exact hl), h.ok _ _ _ _ _ _ _ _ _ _ _ S' hxl e _ q⟩
    · cases e
  · cases e
section
variable {K : KW} {G0 H0 H : Hp} {W : List (T × V)} {ts : List T} {vs : List V} {env : Env} {σ : St} {t : T} {v : V}
theorem OkS.shellL {us : List T} (S : OkS K G0 H0 W H (.lst us :: ts) (v :: vs) env σ) : ∃ a xs G1, v = .ref a ∧ Gst G0 H0 G1 ∧ Same G1 H ∧ G1 a = some (.lst xs) ∧ xs.length = us.length ∧ OkS K G1 H0 W H (us ++ ts) (xs ++ vs) env σ := by
  obtain ⟨G, ot, oe, s⟩ := S
  obtain ⟨v0, r0, oa, ob, h1, ⟨a, xs, o', e1, e2, e3, e4⟩, h3, h4⟩ := s.tmp
  cases h1
  subst e4; subst h4
  have fa := s.fr a (by simp)
  have nd := s.nd
  have na : a ∉ (o' ++ ob) ++ oe := by
    have e0 : (a :: o' ++ ob) ++ oe = a :: ((o' ++ ob) ++ oe) := by simp
    rw [e0] at nd
    exact (List.nodup_cons.mp nd).1
  have nd2 : ((o' ++ ob) ++ oe).Nodup := by
    have e0 : (a :: o' ++ ob) ++ oe = a :: ((o' ++ ob) ++ oe) := by simp
    rw [e0] at nd
    exact (List.nodup_cons.mp nd).2
  have sm : Same G (fun b => if b = a then H a else G b) := fun b u e => by
    show (if b = a then H a else G b) = _
    by_cases hb : b = a
    · subst hb; rw [fa.1] at e; cases e
    · rw [if_neg hb]; exact e
  have sH : Same (fun b => if b = a then H a else G b) H := fun b u e => by
    have e' : (if b = a then H a else G b) = some u := e
    by_cases hb : b = a
    · rw [if_pos hb] at e'; rw [hb]; exact e'
    · rw [if_neg hb] at e'; exact s.gh b u e'
  refine ⟨a, xs, (fun b => if b = a then H a else G b), e1, ⟨s.g0.trans sm, fun b o e => ?_⟩, sH, by show (if a = a then H a else G a) = _; rw [if_pos rfl]; exact e2, e3.len, (fun b => if b = a then H a else G b), o' ++ ob, oe, (e3.mono sm _ (fun _ _ => rfl)).append (h3.mono sm _ (fun _ _ => rfl)), s.env.mono sm _ (fun _ _ => rfl), nd2, fun b hb => ?_, Same.refl _, sH, s.h0, fun b o e => .inl (by rw [e]; simp), fun q hq => ?_⟩
  · have e' : (if b = a then H a else G b) = some o := e
    by_cases hb : b = a
    · subst hb; exact .inr (.inl fa.2)
    · rw [if_neg hb] at e'; exact s.nw b o e'
  · have hx := s.fr b (by
      rcases List.mem_append.mp hb with hb | hb
      · exact List.mem_append_left _ (List.mem_cons_of_mem _ hb)
      · exact List.mem_append_right _ hb)
    refine ⟨?_, hx.2⟩
    show (if b = a then H a else G b) = none
    rw [if_neg (fun z => na (by rw [← z]; exact hb))]; exact hx.1
  · obtain ⟨o, h⟩ := s.vw q hq
    exact ⟨o, h.mono sm _ fun _ _ => rfl⟩
end
def sForUL (f : EF) (G : GF) (body : SF) : SF := fun env => (f env).bind fun r => match r.1 with
  | .lst us => loopT G body us r.2
  | _ => none
theorem ds_forUL {X : Cx} {tg iter : Expr} {body : List Stmt} {te : TE} {f : EF} {g : TG} {G : GF} {tb : TS} {F : SF} {pos : Pos} {sl sl2 : List Nat} (hp : PassesOwn (model X.prog X.w) X.A X.env X.xe) (hc : X.calm = true) (h : DT X iter te f) (hg : DG X tg g G sl) (hb : DSs X body tb F sl2)
    (hs : ∀ x, foldedSetIterable iter X.env x = pure x := by intro _; rfl) : DS X (.For tg iter body [] pos) (tFor (iList X.K te) g tb) (sForUL f G F) (sl ++ sl2) := by
  refine ⟨ps_for hp hc (pi_list h.pe) hg.pg hb.ps hs, ?_⟩
  intro G0 H0 H ts vs env σ fl env' S e D q
  obtain ⟨⟨t, e1⟩, g1, g2⟩ := obind e
  cases t with
  | lst us =>
    have g2 : loopT G F us e1 = some (fl, env') := g2
    refine h.ok _ _ _ _ _ _ _ _ _ _ S g1 _ fun v H1 s1 S1 => ?_
    obtain ⟨a, xs, G1, ev, gst, sG, hG, hlen, S2⟩ := S1.shellL
    refine ⟨a, ev, ⟨xs, .inl (Same.rd sG (.inl hG))⟩, ?_⟩
    refine ⟨fun i m σ2 H => m = us.length - i ∧ i ≤ us.length ∧ Dif (sl ++ sl2) σ σ2 ∧ ∃ env, OkS X.kw G1 H0 [] H (us.drop i ++ ts) (xs.drop i ++ vs) env σ2 ∧ loopT G F (us.drop i) env = some (fl, env'), ⟨us.length, by simp, Nat.zero_le _, .rfl', e1, S2, by simpa using g2⟩, ?_⟩
    rintro i m σ2 H2 ⟨rfl, hle, df, env2, S3, hl⟩
    have hq2 : SqL X.K H2 a xs := .inl (Same.rd S3.same (.inl hG))
    by_cases hlt : i < us.length
    · have hx : i < xs.length := by omega
      refine .inr ⟨⟨xs, xs[i], hq2, List.getElem?_eq_getElem hx⟩, fun σ' H' => i + 1 ≤ us.length ∧ Dif (sl ++ sl2) σ σ' ∧ ∃ env, OkS X.kw G1 H0 [] H' (us.drop (i + 1) ++ ts) (xs.drop (i + 1) ++ vs) env σ' ∧ loopT G F (us.drop (i + 1)) env = some (fl, env'), fun σ' H' ⟨h1, h2⟩ => ⟨us.length - (i + 1), by omega, rfl, h1, h2⟩, fun y H3 hy => ?_⟩
      obtain ⟨eH, hy⟩ := hy
      subst eH
      have ey : xs[i] = y := by
        have := hy xs hq2
        rw [List.getElem?_eq_getElem hx] at this
        exact Option.some.inj this
      subst ey
      rw [List.drop_eq_getElem_cons hlt, List.drop_eq_getElem_cons hx, List.cons_append, List.cons_append] at S3
      rw [List.drop_eq_getElem_cons hlt] at hl
      have hl2 : (xs.drop (i + 1)).length = (us.drop (i + 1)).length := by simp [hlen]
      obtain ⟨e2, l1, l2⟩ := obind hl
      obtain ⟨⟨fl2, e3⟩, l3, l4⟩ := obind l2
      refine hg.ok _ _ _ _ _ _ _ _ _ _ _ S3 l1 _ fun σ' S' f1 => ?_
      refine hb.ok _ _ _ _ _ _ _ _ _ S' l3 _ ?_
      cases fl2 with
      | nx => exact fun H' σ4 S4 f2 => ⟨hlt, df.two (f1.tr f2), e3, S4, l4⟩
      | ct => exact fun H' σ4 S4 f2 => ⟨hlt, df.two (f1.tr f2), e3, S4, l4⟩
      | bk => cases l4; exact fun H' σ4 S4 f2 => q H' σ4 ((OkS.pops hl2 S4).back gst) (df.two (f1.tr f2))
      | rt t => cases l4; exact fun v H' σ' S4 f2 => q v H' σ' ((OkS.pops1 hl2 S4).back gst) (df.two (f1.tr f2))
    · have hi' : i = us.length := by omega
      subst hi'
      rw [List.drop_length] at hl
      cases hl
      have S4 := OkS.pops (us := us.drop us.length) (ws := xs.drop us.length) (by simp [hlen]) S3
      exact .inl ⟨⟨xs, hq2, by rw [hlen]; exact Nat.le_refl _⟩, q H2 σ2 (S4.back gst) df⟩
  | _ => cases g2
end DL
set_option maxHeartbeats 4000000
namespace K15
noncomputable section
open PySem PySem.Spec PyProof.Rows L2 DL
def F_law_mixed : SF :=
  (sSeq (sSet 2 (eOp gMod (eOp gAdd (eOp gMul (eOp gMod (eV 0) (eC (.int 2147483647))) (eC (.int 48271))) (eOp gMul (eOp gAdd (eOp gAdd (eOp gMul (eV 1) (eV 1)) (eOp gMul (eC (.int 3)) (eV 1))) (eC (.int 7))) (eC (.int 69621)))) (eC (.int 2147483647))))
  (sRet (eOp gMod (eOp gMul (eV 2) (eV 2)) (eC (.int 2147483647)))))
def phi_law_mixed : List D → Option T := runF 3 2 F_law_mixed
def B_law_names_1 : SF :=
  (sSeq (sSet 9 (eComp [10] (iR1 (aC (eV 6) aN)) (gNm 10) cYes (eV 3)))
  (sSeq (sPut 9 (eV 7) (eW (eIx (eB 4) (eOp gMod (eOp gAdd (eOp gDiv (eV 2) (eC (.int 4200))) (eOp gMul (eC (.int 3)) (eV 5))) (eC (.int 20))))))
  (sSeq (sPut 9 (eOp gMod (eOp gAdd (eV 7) (eC (.int 1))) (eV 6)) (eW (eIx (eB 4) (eOp gMod (eOp gAdd (eOp gDiv (eV 2) (eC (.int 84000))) (eOp gDiv (eV 5) (eC (.int 20)))) (eC (.int 20))))))
  (sApp 8 (eJoin (eC (.str (PySem.Str.ofString ""))) (eB 9))))))
def F_law_names : SF :=
  (sSeq (sSet 2 (eFz (eCall phi_law_mixed (aC (eV 0) (aC (eC (.int 3)) aN)))))
  (sSeq (sSet 3 (eW (eIx (eC (.str (PySem.Str.ofString "abcdefghijklmnpqrstuvwxyz"))) (eOp gMod (eV 2) (eC (.int 25))))))
  (sSeq (sSet 4 (eC (.str (PySem.Str.ofString "bcdfghjklmnpqrstvwxz"))))
  (sSeq (sIf (cAnd (cT (eCmp eqQ (eOp gMod (eOp gDiv (eV 2) (eC (.int 25))) (eC (.int 3))) (eC (.int 0)))) (cT (eCmp cLt (eB 1) (eC (.int 9))))) (sRet (eComp [5] (iR1 (aC (eV 1) aN)) (gNm 5) cYes (eOp gMulA (eV 3) (eOp gSub (eV 1) (eV 5))))) sNx)
  (sSeq (sSet 6 (eOp gAdd (eC (.int 2)) (eOp gMod (eOp gDiv (eV 2) (eC (.int 75))) (eC (.int 7)))))
  (sSeq (sSet 7 (eOp gMod (eOp gDiv (eV 2) (eC (.int 525))) (eV 6)))
  (sSeq (sSet 8 (eL aN))
  (sSeq (sFor (iR1 (aC (eV 1) aN)) (gNm 5) B_law_names_1)
  (sRet (eM 8))))))))))
def phi_law_names : List D → Option T := runF 11 2 F_law_names
def F_law_cell : SF :=
  (sSeq (sIf (cT (eCmp cLt (eB 1) (eB1 gLen (eB 0)))) (sRet (eW (eIx (eB 0) (eV 1)))) sNx)
  (sRet (eC (.int 0))))
def phi_law_cell : List D → Option T := runF 2 2 F_law_cell
def F_law_coins : SF :=
  (sSeq (sIf (cT (eCmp eqQ (eOp gMod (eV 1) (eC (.int 5))) (eC (.int 0)))) (sRet (eC (.int 1))) sNx)
  (sSeq (sIf (cT (eCmp eqQ (eOp gMod (eV 1) (eC (.int 5))) (eC (.int 1)))) (sRet (eM 2)) sNx)
  (sSeq (sIf (cT (eCmp eqQ (eOp gMod (eV 1) (eC (.int 5))) (eC (.int 2)))) (sRet (eOp gAdd (eC (.int 1)) (eOp gMod (eV 0) (eC (.int 7))))) sNx)
  (sSeq (sIf (cT (eCmp eqQ (eOp gMod (eV 1) (eC (.int 5))) (eC (.int 3)))) (sRet (eOp gAdd (eC (.int 1)) (eOp gMod (eV 0) (eV 2)))) sNx)
  (sRet (eOp gAdd (eC (.int 1)) (eOp gMod (eOp gMul (eOp gMul (eOp gAdd (eOp gMod (eV 0) (eV 2)) (eC (.int 1))) (eOp gAdd (eV 1) (eC (.int 48271)))) (eC (.int 99999999999999997))) (eV 2))))))))
def phi_law_coins : List D → Option T := runF 3 3 F_law_coins
def B_law_plan_1 : SF :=
  (sSeq (sSet 6 (eFz (eCall phi_law_mixed (aC (eV 0) (aC (eOp gAdd (eOp gAdd (eC (.int 40)) (eOp gMul (eC (.int 13)) (eV 1))) (eV 5)) aN)))))
  (sSeq (sSet 4 (eOp gAdd (eOp gAdd (eV 4) (eC (.int 1))) (eOp gMod (eV 6) (eW (eIx (eL (aC (eC (.int 5)) (aC (eC (.int 12)) (aC (eC (.int 1)) aN)))) (eOp gMod (eCall phi_law_mixed (aC (eV 0) (aC (eV 1) aN))) (eC (.int 3))))))))
  (sSeq (sIf (cT (eCmp cGt (eB 4) (eC (.int 60)))) sBk sNx)
  (sApp 3 (eFz (eT (aC (eV 4) (aC (eCall phi_law_coins (aC (eOp gAdd (eV 0) (eV 5)) (aC (eOp gMod (eOp gDiv (eV 6) (eC (.int 60))) (eC (.int 1009))) (aC (eOp gPow (eC (.int 10)) (eC (.int 12))) aN)))) aN))))))))
def F_law_plan : SF :=
  (sSeq (sSet 2 (eOp gAdd (eC (.int 1)) (eOp gMod (eCall phi_law_mixed (aC (eV 0) (aC (eOp gAdd (eV 1) (eC (.int 20))) aN))) (eC (.int 5)))))
  (sSeq (sIf (cAnd (cT (eCmp eqQ (eOp gMod (eV 1) (eC (.int 5))) (eC (.int 0)))) (cT (eCmp eqQ (eOp gMod (eOp gDiv (eCall phi_law_mixed (aC (eV 0) (aC (eOp gAdd (eV 1) (eC (.int 20))) aN))) (eC (.int 5))) (eC (.int 3))) (eC (.int 1))))) (sSet 2 (eC (.int 12))) sNx)
  (sSeq (sSet 3 (eL aN))
  (sSeq (sSet 4 (eC (.int 0)))
  (sSeq (sFor (iR1 (aC (eV 2) aN)) (gNm 5) B_law_plan_1)
  (sRet (eM 3)))))))
def phi_law_plan : List D → Option T := runF 7 2 F_law_plan
def B_law_debts_1 : SF :=
  (sSeq (sSet 6 (eFz (eCall phi_law_mixed (aC (eV 5) (aC (eV 4) aN)))))
  (sIf (cAnd (cT (eCmp cGt (eOp gMod (eV 6) (eC (.int 3))) (eC (.int 0)))) (cT (eCmp cLt (eB1 gLen (eB 3)) (eB1 gLen (eB 1))))) (sApp 3 (eFz (eT (aC (eW (eIx (eB 1) (eB1 gLen (eB 3)))) (aC (eW (eIx (eB 2) (eOp gMod (eOp gDiv (eV 6) (eC (.int 3))) (eB1 gLen (eB 2))))) (aC (eCall phi_law_plan (aC (eV 5) (aC (eV 4) aN))) aN)))))) sNx))
def F_law_debts : SF :=
  (sSeq (sSet 3 (eL aN))
  (sSeq (sFor (iEn (aC (eV 0) aN)) (gTp 2 (gAnd (gNm 4) (gAnd (gNm 5) gEnd))) B_law_debts_1)
  (sRet (eM 3))))
def phi_law_debts : List D → Option T := runF 7 3 F_law_debts
def B_law_events_1 : SF :=
  (sSeq (sSet 5 (eFz (eCall phi_law_mixed (aC (eV 4) (aC (eV 3) aN)))))
  (sIf (cAnd (cT (eCmp eqQ (eOp gMod (eV 5) (eC (.int 3))) (eC (.int 0)))) (cT (eCmp neQ (eB 1) (eL aN)))) (sSeq (sSet 6 (eFz (eCall phi_law_mixed (aC (eV 4) (aC (eOp gAdd (eV 3) (eC (.int 90))) aN)))))
  (sSeq (sSet 7 (eW (eIx (eB 1) (eOp gMod (eV 6) (eB1 gLen (eB 1))))))
  (sSeq (sSet 8 (eOp gAdd (eC (.int 1)) (eOp gMod (eOp gDiv (eV 6) (eC (.int 31))) (eW (eIx (eL (aC (eC (.int 6)) (aC (eC (.int 20)) (aC (eC (.int 60)) aN)))) (eOp gMod (eOp gDiv (eV 6) (eC (.int 7))) (eC (.int 3))))))))
  (sSeq (sIf (cT (eCmp cGt (eOp gMod (eOp gDiv (eV 6) (eC (.int 5))) (eC (.int 3))) (eC (.int 0)))) (sSet 8 (eW (eIx (eIx (eIx (eB 7) (eC (.int 2))) (eOp gMod (eOp gDiv (eV 6) (eC (.int 900))) (eB1 gLen (eIx (eB 7) (eC (.int 2)))))) (eC (.int 0))))) sNx)
  (sIf (cT (eCmp cLt (eOp gMod (eOp gDiv (eV 5) (eC (.int 3))) (eC (.int 6))) (eC (.int 3)))) (sApp 2 (eFz (eT (aC (eC (.str (PySem.Str.ofString "late"))) (aC (eW (eIx (eB 7) (eC (.int 0)))) (aC (eV 8) (aC (eOp gAdd (eC (.int 1)) (eOp gMod (eOp gDiv (eV 6) (eC (.int 1901))) (eW (eIx (eL (aC (eC (.int 3)) (aC (eC (.int 30)) aN))) (eOp gMod (eOp gDiv (eV 6) (eC (.int 11))) (eC (.int 2))))))) aN))))))) (sApp 2 (eFz (eT (aC (eW (eIx (eL (aC (eC (.str (PySem.Str.ofString "early"))) (aC (eC (.str (PySem.Str.ofString "early"))) (aC (eC (.str (PySem.Str.ofString "quit"))) aN)))) (eOp gMod (eOp gDiv (eV 5) (eC (.int 3))) (eC (.int 3))))) (aC (eW (eIx (eB 7) (eC (.int 0)))) (aC (eV 8) aN))))))))))) sNx))
def F_law_events : SF :=
  (sSeq (sSet 2 (eL aN))
  (sSeq (sFor (iEn (aC (eV 0) aN)) (gTp 2 (gAnd (gNm 3) (gAnd (gNm 4) gEnd))) B_law_events_1)
  (sRet (eM 2))))
def phi_law_events : List D → Option T := runF 9 2 F_law_events
def B_law_amounts_1 : SF :=
  (sExtP 1 (pNm 1) (eComp [5, 6] (iL (eV 4)) (gTp 2 (gAnd (gNm 5) (gAnd (gNm 6) gEnd))) cYes (eL (aC (eV 2) (aC (eV 5) (aC (eV 6) (aC (eC (.str (PySem.Str.ofString ""))) aN)))))))
def F_law_amounts : SF :=
  (sSeq (sSet 1 (eL aN))
  (sSeq (sFor (iL (eV 0)) (gTp 3 (gAnd (gNm 2) (gAnd (gNm 3) (gAnd (gNm 4) gEnd)))) B_law_amounts_1)
  (sRet (eM 1))))
def phi_law_amounts : List D → Option T := runF 7 1 F_law_amounts
def B_law_event_1 : SF :=
  (sSeq (sIf (cOr (cT (eCmp neQ (eIx (eB 2) (eC (.int 0))) (eIx (eB 1) (eC (.int 1))))) (cT (eCmp neQ (eIx (eB 2) (eC (.int 3))) (eC (.str (PySem.Str.ofString "")))))) sCt sNx)
  (sIf (cT (eCmp eqQ (eIx (eB 1) (eC (.int 0))) (eC (.str (PySem.Str.ofString "quit"))))) (sSeq (sPut 2 (eC (.int 1)) (eW (eIx (eB 1) (eC (.int 2)))))
  (sPut 2 (eC (.int 3)) (eC (.str (PySem.Str.ofString "lost"))))) (sIf (cT (eCmp eqQ (eIx (eB 1) (eC (.int 0))) (eC (.str (PySem.Str.ofString "early"))))) (sPut 2 (eC (.int 1)) (eW (eIx (eB 1) (eC (.int 2))))) (sIf (cT (eCmp eqQ (eIx (eB 2) (eC (.int 1))) (eIx (eB 1) (eC (.int 2))))) (sPut 2 (eC (.int 1)) (eOp gAdd (eW (eIx (eB 1) (eC (.int 2)))) (eW (eIx (eB 1) (eC (.int 3)))))) sNx))))
def F_law_event : SF :=
  (sForP 0 2 B_law_event_1)
def phi_law_event : T → List D → Option (T × T) := runM 3 1 F_law_event
def B_law_walked_1 : SF :=
  (sIf (cT (eCmp eqQ (eIx (eB 4) (eC (.int 2))) (eB 3))) (sDrop (eCallM phi_law_event 0 (pNm 0) (aC (eV 4) aN))) sNx)
def B_law_walked_2 : SF :=
  (sIf (cAnd (cT (eCmp eqQ (eIx (eB 5) (eC (.int 1))) (eB 3))) (cT (eCmp eqQ (eIx (eB 5) (eC (.int 3))) (eC (.str (PySem.Str.ofString "")))))) (sPut 5 (eC (.int 3)) (eC (.str (PySem.Str.ofString "paid")))) sNx)
def B_law_walked_3 : SF :=
  (sSeq (sFor (iL (eV 1)) (gNm 4) B_law_walked_1)
  (sForP 0 5 B_law_walked_2))
def F_law_walked : SF :=
  (sFor (iR2 (aC (eC (.int 1)) (aC (eOp gAdd (eV 2) (eC (.int 1))) aN))) (gNm 3) B_law_walked_3)
def phi_law_walked : T → List D → Option (T × T) := runM 6 2 F_law_walked
def B_law_sums_1 : SF :=
  (sSeq (sIf (cT (eCmp eqQ (eB 5) (eC (.str (PySem.Str.ofString ""))))) (sSet 3 (eC (.int 0))) sNx)
  (sPutT 1 (pNm 1) (eT (aC (eV 5) (aC (eV 3) (aC (eV 2) aN)))) (eOp gAdd (eDgetT (eB 1) (eT (aC (eV 5) (aC (eV 3) (aC (eV 2) aN)))) (eC (.int 0))) (eV 4))))
def F_law_sums : SF :=
  (sSeq (sSet 1 eDt)
  (sSeq (sFor (iL (eV 0)) (gTpL 4 (gAnd (gNm 2) (gAnd (gNm 3) (gAnd (gNm 4) (gAnd (gNm 5) gEnd))))) B_law_sums_1)
  (sRet (eM 1))))
def phi_law_sums : List D → Option T := runF 6 1 F_law_sums
def B_law_pairs_1 : SF :=
  (sIf (cT (eDinT true (eT (aC (eV 1) (aC (eV 2) (aC (eV 5) aN)))) (eB 0))) (sApp 4 (eFz (eT (aC (eV 5) (aC (eDixT (eB 0) (eT (aC (eV 1) (aC (eV 2) (aC (eV 5) aN))))) aN))))) sNx)
def F_law_pairs : SF :=
  (sSeq (sSet 4 (eL aN))
  (sSeq (sFor (iL (eV 3)) (gTp 3 (gAnd (gNm 5) (gAnd (gNm 6) (gAnd (gNm 7) gEnd)))) B_law_pairs_1)
  (sRet (eM 4))))
def phi_law_pairs : List D → Option T := runF 8 4 F_law_pairs
def F_event_done : SF :=
  (sSeq (sSet 2 (eW (eIx (eB 1) (eC (.int 1)))))
  (sSeq (sSet 3 (eW (eIx (eB 1) (eC (.int 2)))))
  (sSeq (sIf (cT (eCmp eqQ (eIx (eB 1) (eC (.int 0))) (eC (.str (PySem.Str.ofString "late"))))) (sSeq (sSet 4 (ePop 0 (pKey 0 (pNm 0) (eV 2)) (eV 3) (eC (.int 0))))
  (sSeq (sIf (cT (eCmp cGt (eB 4) (eC (.int 0)))) (sPutP 0 (pKey 0 (pNm 0) (eV 2)) (eOp gAdd (eV 3) (eW (eIx (eB 1) (eC (.int 3))))) (eOp gAdd (eDget (eDk (eB 0) (eV 2)) (eOp gAdd (eV 3) (eW (eIx (eB 1) (eC (.int 3))))) (eC (.int 0))) (eV 4))) sNx)
  (sRet (eC (.int 0))))) sNx)
  (sSeq (sSet 4 (eB1 gSum (eValsL (eDk (eB 0) (eV 2)))))
  (sSeq (sPutP 0 (pNm 0) (eV 2) eDn)
  (sSeq (sIf (cT (eCmp eqQ (eIx (eB 1) (eC (.int 0))) (eC (.str (PySem.Str.ofString "quit"))))) (sRet (eM 4)) sNx)
  (sSeq (sIf (cT (eCmp cGt (eB 4) (eC (.int 0)))) (sPutP 0 (pKey 0 (pNm 0) (eV 2)) (eV 3) (eV 4)) sNx)
  (sRet (eC (.int 0))))))))))
def phi_event_done : T → List D → Option (T × T) := runM 5 1 F_event_done
def B_one_day_1 : SF :=
  (sIf (cT (eCmp eqQ (eIx (eB 4) (eC (.int 2))) (eB 2))) (sPutP 3 (pNm 3) (eW (eIx (eB 4) (eC (.int 1)))) (eOp gAdd (eDget (eB 3) (eW (eIx (eB 4) (eC (.int 1)))) (eC (.int 0))) (eCallM phi_event_done 0 (pNm 0) (aC (eV 4) aN)))) sNx)
def B_one_day_2 : SF :=
  (sSeq (sSet 8 (ePop 0 (pKey 0 (pNm 0) (eV 7)) (eV 2) (eC (.int 0))))
  (sSeq (sIf (cT (eCmp cGt (eB 8) (eC (.int 0)))) (sApp 5 (eFz (eT (aC (eV 7) (aC (eV 8) aN))))) sNx)
  (sIf (cT (eCmp cGt (eDget (eB 3) (eV 7) (eC (.int 0))) (eC (.int 0)))) (sApp 6 (eFz (eT (aC (eV 7) (aC (eDix (eB 3) (eV 7)) aN))))) sNx)))
def F_one_day : SF :=
  (sSeq (sSet 3 eDn)
  (sSeq (sFor (iL (eV 1)) (gNm 4) B_one_day_1)
  (sSeq (sSet 5 (eL aN))
  (sSeq (sSet 6 (eL aN))
  (sSeq (sFor (iL (eFz (eKeysL (eB 0)))) (gNm 7) B_one_day_2)
  (sRet (eT (aC (eM 5) (aC (eM 6) aN)))))))))
def phi_one_day : T → List D → Option (T × T) := runM 9 2 F_one_day
def B_told_days_1 : SF :=
  (sPutP 3 (pNm 3) (eV 4) (eDictP (eB 6)))
def B_told_days_2 : SF :=
  (sSeq (sSet 10 (eB1 gSum (eValsL (eDk (eB 3) (eV 4)))))
  (sIf (cT (eCmp cGt (eB 10) (eC (.int 0)))) (sApp 9 (eFz (eT (aC (eV 4) (aC (eV 10) aN))))) sNx))
def F_told_days : SF :=
  (sSeq (sSet 3 eDn)
  (sSeq (sFor (iL (eV 0)) (gTp 3 (gAnd (gNm 4) (gAnd (gNm 5) (gAnd (gNm 6) gEnd)))) B_told_days_1)
  (sSeq (sSet 7 (eComp [8] (iR2 (aC (eC (.int 1)) (aC (eOp gAdd (eV 2) (eC (.int 1))) aN))) (gNm 8) cYes (eCallM phi_one_day 3 (pNm 3) (aC (eV 1) (aC (eV 8) aN)))))
  (sSeq (sSet 9 (eL aN))
  (sSeq (sFor (iKy (eV 3)) (gNm 4) B_told_days_2)
  (sRet (eT (aC (eM 7) (aC (eM 9) aN)))))))))
def phi_told_days : List D → Option T := runF 11 3 F_told_days
def F_law_total : SF :=
  (sRet (eB1 gSum (eComp [2, 3] (iL (eV 0)) (gTp 2 (gAnd (gNm 2) (gAnd (gNm 3) gEnd))) (cT (eCmp eqQ (eB 2) (eB 1))) (eV 3))))
def phi_law_total : List D → Option T := runF 4 2 F_law_total
def B_law_each_1 : SF :=
  (sSet 2 (eFz (eCat (eCat (eB 2) (eB 3)) (eB 4))))
def B_law_each_2 : SF :=
  (sIf (cT (eCmp neQ (eCall phi_law_total (aC (eV 2) (aC (eV 5) aN))) (eB1 gSum (eComp [8, 9] (iL (eV 7)) (gTp 2 (gAnd (gNm 8) (gAnd (gNm 9) gEnd))) cYes (eV 9))))) (sRet (eC (.bl false))) sNx)
def F_law_each : SF :=
  (sSeq (sSet 2 (eFz (eList (eIx (eB 0) (eC (.int 1))))))
  (sSeq (sFor (iL (eW (eIx (eB 0) (eC (.int 0))))) (gTp 2 (gAnd (gNm 3) (gAnd (gNm 4) gEnd))) B_law_each_1)
  (sSeq (sFor (iL (eV 1)) (gTp 3 (gAnd (gNm 5) (gAnd (gNm 6) (gAnd (gNm 7) gEnd)))) B_law_each_2)
  (sRet (eC (.bl true))))))
def phi_law_each : List D → Option T := runF 10 2 F_law_each
def B_law_alike_1 (φ : List D → Option T) : SF :=
  (sIf (cNot (cT (eCall φ (aC (eW (eIx (eB 0) (eV 2))) (aC (eW (eIx (eB 1) (eV 2))) aN))))) (sRet (eC (.bl false))) sNx)
def F_law_alike (φ : List D → Option T) : SF :=
  (sSeq (sIf (cT (eCmp isN (eB 1) (eC .non))) (sRet (eCmp isN (eB 0) (eC .non))) sNx)
  (sSeq (sIf (cT (eIsi "bool" (eB 1))) (sRet (eAnd (eIsi "bool" (eB 0)) (eCmp eqQ (eB 0) (eB 1)))) sNx)
  (sSeq (sIf (cT (eIsi "int" (eB 1))) (sRet (eAnd (eIsi "int" (eB 0)) (eAnd (eNot (eIsi "bool" (eB 0))) (eCmp eqQ (eB 0) (eB 1))))) sNx)
  (sSeq (sIf (cT (eIsi "str" (eB 1))) (sRet (eAnd (eIsi "str" (eB 0)) (eCmp eqQ (eB 0) (eB 1)))) sNx)
  (sSeq (sIf (cAnd (cT (eIsi "tuple" (eB 1))) (cNot (cT (eIsi "tuple" (eB 0))))) (sRet (eC (.bl false))) sNx)
  (sSeq (sIf (cAnd (cT (eIsi "list" (eB 1))) (cNot (cT (eIsi "list" (eB 0))))) (sRet (eC (.bl false))) sNx)
  (sSeq (sIf (cT (eCmp neQ (eB1 gLen (eB 0)) (eB1 gLen (eB 1)))) (sRet (eC (.bl false))) sNx)
  (sSeq (sFor (iR1 (aC (eB1 gLen (eB 1)) aN)) (gNm 2) (B_law_alike_1 φ))
  (sRet (eC (.bl true)))))))))))
def phi_law_alike : Nat → List D → Option T
  | 0 => fun _ => none
  | n + 1 => runF 3 2 (F_law_alike (phi_law_alike n))
def B_law_1 : SF :=
  (sApp 8 (eFz (eT (aC (eCall phi_law_pairs (aC (eV 7) (aC (eC (.str (PySem.Str.ofString "paid"))) (aC (eV 9) (aC (eV 2) aN))))) (aC (eCall phi_law_pairs (aC (eV 7) (aC (eC (.str (PySem.Str.ofString "lost"))) (aC (eV 9) (aC (eV 2) aN))))) aN)))))
def B_law_2 : SF :=
  (sApp 16 (eC (.int 7)))
def F_law : SF :=
  (sSeq (sSet 1 (eFz (eCall phi_law_names (aC (eCall phi_law_cell (aC (eV 0) (aC (eC (.int 0)) aN))) (aC (eC (.int 30)) aN)))))
  (sSeq (sSet 2 (eFz (eCall phi_law_debts (aC (eFz (eSl (eB 0) (oS (eC (.int 2))) (oS (eC (.int 62))))) (aC (eV 1) (aC (eFz (eL (aC (eC (.str (PySem.Str.ofString "pp"))) aN))) aN))))))
  (sSeq (sSet 3 (eFz (eCall phi_law_events (aC (eFz (eSl (eB 0) (oS (eC (.int 2))) (oS (eC (.int 62))))) (aC (eV 2) aN)))))
  (sSeq (sSet 4 (eFz (eCall phi_law_mixed (aC (eCall phi_law_cell (aC (eV 0) (aC (eC (.int 1)) aN))) (aC (eC (.int 1)) aN)))))
  (sSeq (sSet 5 (eW (eIx (eL (aC (eC (.int 0)) (aC (eC (.int 60)) (aC (eC (.int 120)) (aC (eOp gMod (eOp gDiv (eV 4) (eC (.int 7))) (eC (.int 121))) (aC (eC (.int 90)) (aC (eOp gAdd (eC (.int 10)) (eOp gMod (eOp gDiv (eV 4) (eC (.int 7))) (eC (.int 30)))) (aC (eC (.int 5)) aN)))))))) (eOp gMod (eV 4) (eC (.int 7))))))
  (sSeq (sSet 6 (eCall phi_law_amounts (aC (eV 2) aN)))
  (sSeq (sDrop (eCallM phi_law_walked 6 (pNm 6) (aC (eV 3) (aC (eV 5) aN))))
  (sSeq (sSet 7 (eFz (eCall phi_law_sums (aC (eV 6) aN))))
  (sSeq (sSet 8 (eL aN))
  (sSeq (sFor (iR2 (aC (eC (.int 1)) (aC (eOp gAdd (eV 5) (eC (.int 1))) aN))) (gNm 9) B_law_1)
  (sSeq (sSet 10 (eFz (eT (aC (eV 8) (aC (eCall phi_law_pairs (aC (eV 7) (aC (eC (.str (PySem.Str.ofString ""))) (aC (eC (.int 0)) (aC (eV 2) aN))))) aN)))))
  (sSeq (sSet 11 (eFz (eL (aC (eComp [12, 13, 14] (iL (eV 2)) (gTp 3 (gAnd (gNm 12) (gAnd (gNm 13) (gAnd (gNm 14) gEnd)))) cYes (eT (aC (eV 12) (aC (eV 13) (aC (eList (eB 14)) aN))))) (aC (eList (eB 3)) aN)))))
  (sSeq (sSet 15 (eCall phi_told_days (aC (eW (eIx (eB 11) (eC (.int 0)))) (aC (eW (eIx (eB 11) (eC (.int 1)))) (aC (eV 5) aN)))))
  (sSeq (sIf (cOr (cNot (cT (eCallB (phi_law_alike 8) (aC (eB 15) (aC (eB 10) aN))))) (cNot (cT (eCallB phi_law_each (aC (eB 15) (aC (eB 2) aN)))))) (sRet (eC (.bl false))) sNx)
  (sSeq (sAppP 15 (pIx 15 (pNm 15) (eC (.int 1))) (eC (.int 7)))
  (sSeq (sForUL (eMvP 15 (pIx 15 (pNm 15) (eC (.int 0)))) (gTp 2 (gAnd (gNm 16) (gAnd (gNm 17) gEnd))) B_law_2)
  (sRet (eAnd (eCmp eqQ (eB 11) (eL (aC (eV 2) (aC (eV 3) aN)))) (eCall (phi_law_alike 8) (aC (eFz (eCall phi_told_days (aC (eW (eIx (eB 11) (eC (.int 0)))) (aC (eW (eIx (eB 11) (eC (.int 1)))) (aC (eV 5) aN))))) (aC (eV 10) aN)))))))))))))))))))))
def phi_law : List D → Option T := runF 18 1 F_law
end
end K15
namespace K15
open PySem PySem.Spec PyProof.Rows L2 DL
def topS (i : Nat) : Stmt := PySem.Challenge.pw_tranchefall_k15_whole_each_coin_once.main.body.getD i (.Pass ⟨0, 0, 0, 0⟩)
abbrev s_law_mixed : Stmt := topS 6
abbrev N_law_mixed : List Str := ["_law_cell_here", "_law_k", "_law_m"]
theorem sc_law_mixed : FnScope N_law_mixed ["_law_cell_here", "_law_k"] (defScope s_law_mixed) := ⟨rfl, rfl, rfl, by decide +kernel, rfl, by decide +kernel, by decide +kernel⟩
abbrev s_law_names : Stmt := topS 7
abbrev N_law_names : List Str := ["_law_cell_here", "_law_many", "_law_m", "_law_base", "_law_some", "_law_k", "_law_size", "_law_at", "_law_out", "_law_signs", "_law_place"]
theorem sc_law_names : FnScope N_law_names ["_law_cell_here", "_law_many"] (defScope s_law_names) := ⟨rfl, rfl, rfl, by decide +kernel, rfl, by decide +kernel, by decide +kernel⟩
abbrev s_law_cell : Stmt := topS 5
abbrev N_law_cell : List Str := ["_law_script", "_law_k"]
theorem sc_law_cell : FnScope N_law_cell ["_law_script", "_law_k"] (defScope s_law_cell) := ⟨rfl, rfl, rfl, by decide +kernel, rfl, by decide +kernel, by decide +kernel⟩
abbrev s_law_coins : Stmt := topS 8
abbrev N_law_coins : List Str := ["_law_cell_here", "_law_way", "_law_most"]
theorem sc_law_coins : FnScope N_law_coins ["_law_cell_here", "_law_way", "_law_most"] (defScope s_law_coins) := ⟨rfl, rfl, rfl, by decide +kernel, rfl, by decide +kernel, by decide +kernel⟩
abbrev s_law_plan : Stmt := topS 10
abbrev N_law_plan : List Str := ["_law_cell_here", "_law_k", "_law_many", "_law_plan_here", "_law_day", "_law_j", "_law_m"]
theorem sc_law_plan : FnScope N_law_plan ["_law_cell_here", "_law_k"] (defScope s_law_plan) := ⟨rfl, rfl, rfl, by decide +kernel, rfl, by decide +kernel, by decide +kernel⟩
abbrev s_law_debts : Stmt := topS 11
abbrev N_law_debts : List Str := ["_law_cells", "_law_names_here", "_law_pools", "_law_debts_here", "_law_k", "_law_cell_here", "_law_m"]
theorem sc_law_debts : FnScope N_law_debts ["_law_cells", "_law_names_here", "_law_pools"] (defScope s_law_debts) := ⟨rfl, rfl, rfl, by decide +kernel, rfl, by decide +kernel, by decide +kernel⟩
abbrev s_law_events : Stmt := topS 12
abbrev N_law_events : List Str := ["_law_cells", "_law_debts_here", "_law_events_here", "_law_k", "_law_cell_here", "_law_m", "_law_n", "_law_debt", "_law_day"]
theorem sc_law_events : FnScope N_law_events ["_law_cells", "_law_debts_here"] (defScope s_law_events) := ⟨rfl, rfl, rfl, by decide +kernel, rfl, by decide +kernel, by decide +kernel⟩
abbrev s_law_amounts : Stmt := topS 13
abbrev N_law_amounts : List Str := ["_law_debts_here", "_law_amounts_here", "_law_name", "_law_pool", "_law_plan_here", "_law_day", "_law_coins_here"]
theorem sc_law_amounts : FnScope N_law_amounts ["_law_debts_here"] (defScope s_law_amounts) := ⟨rfl, rfl, rfl, by decide +kernel, rfl, by decide +kernel, by decide +kernel⟩
abbrev s_law_event : Stmt := topS 14
abbrev N_law_event : List Str := ["_law_amounts_here", "_law_event_here", "_law_one"]
theorem sc_law_event : FnScope N_law_event ["_law_amounts_here", "_law_event_here"] (defScope s_law_event) := ⟨rfl, rfl, rfl, by decide +kernel, rfl, by decide +kernel, by decide +kernel⟩
abbrev s_law_walked : Stmt := topS 15
abbrev N_law_walked : List Str := ["_law_amounts_here", "_law_events_here", "_law_many", "_law_day", "_law_event_here", "_law_one"]
theorem sc_law_walked : FnScope N_law_walked ["_law_amounts_here", "_law_events_here", "_law_many"] (defScope s_law_walked) := ⟨rfl, rfl, rfl, by decide +kernel, rfl, by decide +kernel, by decide +kernel⟩
abbrev s_law_sums : Stmt := topS 16
abbrev N_law_sums : List Str := ["_law_amounts_here", "_law_sums_here", "_law_name", "_law_day", "_law_coins_here", "_law_fate"]
theorem sc_law_sums : FnScope N_law_sums ["_law_amounts_here"] (defScope s_law_sums) := ⟨rfl, rfl, rfl, by decide +kernel, rfl, by decide +kernel, by decide +kernel⟩
abbrev s_law_pairs : Stmt := topS 17
abbrev N_law_pairs : List Str := ["_law_sums_here", "_law_fate", "_law_day", "_law_debts_here", "_law_rows", "_law_name", "_law_pool", "_law_plan_here"]
theorem sc_law_pairs : FnScope N_law_pairs ["_law_sums_here", "_law_fate", "_law_day", "_law_debts_here"] (defScope s_law_pairs) := ⟨rfl, rfl, rfl, by decide +kernel, rfl, by decide +kernel, by decide +kernel⟩
abbrev s_event_done : Stmt := topS 1
abbrev N_event_done : List Str := ["plans", "event", "name", "day", "coins"]
theorem sc_event_done : FnScope N_event_done ["plans", "event"] (defScope s_event_done) := ⟨rfl, rfl, rfl, by decide +kernel, rfl, by decide +kernel, by decide +kernel⟩
abbrev s_one_day : Stmt := topS 2
abbrev N_one_day : List Str := ["plans", "events", "day", "lost", "event", "paid_rows", "lost_rows", "name", "coins"]
theorem sc_one_day : FnScope N_one_day ["plans", "events", "day"] (defScope s_one_day) := ⟨rfl, rfl, rfl, by decide +kernel, rfl, by decide +kernel, by decide +kernel⟩
abbrev s_told_days : Stmt := topS 3
abbrev N_told_days : List Str := ["debts", "events", "many", "plans", "name", "pool", "plan", "days", "day", "left", "coins"]
theorem sc_told_days : FnScope N_told_days ["debts", "events", "many"] (defScope s_told_days) := ⟨rfl, rfl, rfl, by decide +kernel, rfl, by decide +kernel, by decide +kernel⟩
abbrev s_law_total : Stmt := topS 18
abbrev N_law_total : List Str := ["_law_pairs_here", "_law_name", "_law_one", "_law_coins_here"]
theorem sc_law_total : FnScope N_law_total ["_law_pairs_here", "_law_name"] (defScope s_law_total) := ⟨rfl, rfl, rfl, by decide +kernel, rfl, by decide +kernel, by decide +kernel⟩
abbrev s_law_each : Stmt := topS 19
abbrev N_law_each : List Str := ["_law_found", "_law_debts_here", "_law_rows", "_law_paid", "_law_lost", "_law_name", "_law_pool", "_law_plan_here", "_law_day", "_law_coins_here"]
theorem sc_law_each : FnScope N_law_each ["_law_found", "_law_debts_here"] (defScope s_law_each) := ⟨rfl, rfl, rfl, by decide +kernel, rfl, by decide +kernel, by decide +kernel⟩
abbrev s_law_alike : Stmt := topS 9
abbrev N_law_alike : List Str := ["_law_found", "_law_due", "_law_k"]
theorem sc_law_alike : FnScope N_law_alike ["_law_found", "_law_due"] (defScope s_law_alike) := ⟨rfl, rfl, rfl, by decide +kernel, rfl, by decide +kernel, by decide +kernel⟩
abbrev s_law : Stmt := topS 20
abbrev N_law : List Str := ["_law_script", "_law_names_here", "_law_debts_here", "_law_events_here", "_law_m", "_law_many", "_law_amounts_here", "_law_sums_here", "_law_days", "_law_day", "_law_due", "_law_handed", "_law_name", "_law_pool", "_law_plan_here", "_law_found", "_law_paid", "_law_lost"]
theorem sc_law : FnScope N_law ["_law_script"] (defScope s_law) := ⟨rfl, rfl, rfl, by decide +kernel, rfl, by decide +kernel, by decide +kernel⟩
structure Txt (K : DL.KW) (mg : Str → Option Value) (f_law_mixed f_law_names f_law_cell f_law_coins f_law_plan f_law_debts f_law_events f_law_amounts f_law_event f_law_walked f_law_sums f_law_pairs f_event_done f_one_day f_told_days f_law_total f_law_each f_law_alike f_law : Addr) (d_law_mixed d_law_names d_law_cell d_law_coins d_law_plan d_law_debts d_law_events d_law_amounts d_law_event d_law_walked d_law_sums d_law_pairs d_event_done d_one_day d_told_days d_law_total d_law_each d_law_alike d_law : FuncData) : Prop where
  F_law_mixed : Fun K "_law_mixed" "_law_mixed" s_law_mixed f_law_mixed d_law_mixed
  b_law_mixed : Binds K d_law_mixed ["_law_cell_here", "_law_k"] []
  g_law_mixed : mg "_law_mixed" = some (.ref f_law_mixed)
  F_law_names : Fun K "_law_names" "_law_names" s_law_names f_law_names d_law_names
  b_law_names : Binds K d_law_names ["_law_cell_here", "_law_many"] []
  g_law_names : mg "_law_names" = some (.ref f_law_names)
  F_law_cell : Fun K "_law_cell" "_law_cell" s_law_cell f_law_cell d_law_cell
  b_law_cell : Binds K d_law_cell ["_law_script", "_law_k"] []
  g_law_cell : mg "_law_cell" = some (.ref f_law_cell)
  F_law_coins : Fun K "_law_coins" "_law_coins" s_law_coins f_law_coins d_law_coins
  b_law_coins : Binds K d_law_coins ["_law_cell_here", "_law_way", "_law_most"] []
  g_law_coins : mg "_law_coins" = some (.ref f_law_coins)
  F_law_plan : Fun K "_law_plan" "_law_plan" s_law_plan f_law_plan d_law_plan
  b_law_plan : Binds K d_law_plan ["_law_cell_here", "_law_k"] []
  g_law_plan : mg "_law_plan" = some (.ref f_law_plan)
  F_law_debts : Fun K "_law_debts" "_law_debts" s_law_debts f_law_debts d_law_debts
  b_law_debts : Binds K d_law_debts ["_law_cells", "_law_names_here", "_law_pools"] []
  g_law_debts : mg "_law_debts" = some (.ref f_law_debts)
  F_law_events : Fun K "_law_events" "_law_events" s_law_events f_law_events d_law_events
  b_law_events : Binds K d_law_events ["_law_cells", "_law_debts_here"] []
  g_law_events : mg "_law_events" = some (.ref f_law_events)
  F_law_amounts : Fun K "_law_amounts" "_law_amounts" s_law_amounts f_law_amounts d_law_amounts
  b_law_amounts : Binds K d_law_amounts ["_law_debts_here"] []
  g_law_amounts : mg "_law_amounts" = some (.ref f_law_amounts)
  F_law_event : Fun K "_law_event" "_law_event" s_law_event f_law_event d_law_event
  b_law_event : Binds K d_law_event ["_law_amounts_here", "_law_event_here"] []
  g_law_event : mg "_law_event" = some (.ref f_law_event)
  F_law_walked : Fun K "_law_walked" "_law_walked" s_law_walked f_law_walked d_law_walked
  b_law_walked : Binds K d_law_walked ["_law_amounts_here", "_law_events_here", "_law_many"] []
  g_law_walked : mg "_law_walked" = some (.ref f_law_walked)
  F_law_sums : Fun K "_law_sums" "_law_sums" s_law_sums f_law_sums d_law_sums
  b_law_sums : Binds K d_law_sums ["_law_amounts_here"] []
  g_law_sums : mg "_law_sums" = some (.ref f_law_sums)
  F_law_pairs : Fun K "_law_pairs" "_law_pairs" s_law_pairs f_law_pairs d_law_pairs
  b_law_pairs : Binds K d_law_pairs ["_law_sums_here", "_law_fate", "_law_day", "_law_debts_here"] []
  g_law_pairs : mg "_law_pairs" = some (.ref f_law_pairs)
  F_event_done : Fun K "event_done" "event_done" s_event_done f_event_done d_event_done
  b_event_done : Binds K d_event_done ["plans", "event"] []
  g_event_done : mg "event_done" = some (.ref f_event_done)
  F_one_day : Fun K "one_day" "one_day" s_one_day f_one_day d_one_day
  b_one_day : Binds K d_one_day ["plans", "events", "day"] []
  g_one_day : mg "one_day" = some (.ref f_one_day)
  F_told_days : Fun K "told_days" "told_days" s_told_days f_told_days d_told_days
  b_told_days : Binds K d_told_days ["debts", "events", "many"] []
  g_told_days : mg "told_days" = some (.ref f_told_days)
  F_law_total : Fun K "_law_total" "_law_total" s_law_total f_law_total d_law_total
  b_law_total : Binds K d_law_total ["_law_pairs_here", "_law_name"] []
  g_law_total : mg "_law_total" = some (.ref f_law_total)
  F_law_each : Fun K "_law_each" "_law_each" s_law_each f_law_each d_law_each
  b_law_each : Binds K d_law_each ["_law_found", "_law_debts_here"] []
  g_law_each : mg "_law_each" = some (.ref f_law_each)
  F_law_alike : Fun K "_law_alike" "_law_alike" s_law_alike f_law_alike d_law_alike
  b_law_alike : Binds K d_law_alike ["_law_found", "_law_due"] []
  g_law_alike : mg "_law_alike" = some (.ref f_law_alike)
  F_law : Fun K "law" "law" s_law f_law d_law
  b_law : Binds K d_law ["_law_script"] []
  g_law : mg "law" = some (.ref f_law)
  m_list : mg "list" = none
  m_sum : mg "sum" = none
  m_dict : mg "dict" = none
  m_range : mg "range" = none
  m_len : mg "len" = none
  m_isinstance : mg "isinstance" = none
  m_bool : mg "bool" = none
  m_int : mg "int" = none
  m_str : mg "str" = none
  m_tuple : mg "tuple" = none
  m_enumerate : mg "enumerate" = none
section
variable {K : DL.KW} {mg : Str → Option Value} {base : Heap} {f_law_mixed f_law_names f_law_cell f_law_coins f_law_plan f_law_debts f_law_events f_law_amounts f_law_event f_law_walked f_law_sums f_law_pairs f_event_done f_one_day f_told_days f_law_total f_law_each f_law_alike f_law : Addr} {d_law_mixed d_law_names d_law_cell d_law_coins d_law_plan d_law_debts d_law_events d_law_amounts d_law_event d_law_walked d_law_sums d_law_pairs d_event_done d_one_day d_told_days d_law_total d_law_each d_law_alike d_law : FuncData} (T : Txt K mg f_law_mixed f_law_names f_law_cell f_law_coins f_law_plan f_law_debts f_law_events f_law_amounts f_law_event f_law_walked f_law_sums f_law_pairs f_event_done f_one_day f_told_days f_law_total f_law_each f_law_alike f_law d_law_mixed d_law_names d_law_cell d_law_coins d_law_plan d_law_debts d_law_events d_law_amounts d_law_event d_law_walked d_law_sums d_law_pairs d_event_done d_one_day d_told_days d_law_total d_law_each d_law_alike d_law)
include T
theorem ok_law_mixed : FnOk K.P K.w K mg base CX0 1 f_law_mixed d_law_mixed ["_law_cell_here", "_law_k"] (spD 2 phi_law_mixed K) := by
  have nd : N_law_mixed.Nodup := sc_law_mixed.nd
  exact okD (Fb := F_law_mixed) T.F_law_mixed sc_law_mixed rfl rfl fun cdv A outer s H E hr => have hu := hu_of hr; ⟨_, _,
    (dss_cons (ds_set (i := 2) nd rfl (by first | exact Or.inl rfl | exact Or.inr rfl) (dt_mod (dt_add (dt_mul (dt_mod (dt_v 0) dt_int) dt_int) (dt_mul (dt_add (dt_add (dt_mul (dt_v 1) (dt_v 1)) (dt_mul dt_int (dt_v 1))) dt_int) dt_int)) dt_int))
      (dss_one (ds_ret (dt_mod (dt_mul (dt_v 2) (dt_v 2)) dt_int))))⟩
theorem ok_law_names : FnOk K.P K.w K mg base CX0 2 f_law_names d_law_names ["_law_cell_here", "_law_many"] (spD 2 phi_law_names K) := by
  have nd : N_law_names.Nodup := sc_law_names.nd
  exact okD (Fb := F_law_names) T.F_law_names sc_law_names rfl rfl fun cdv A outer s H E hr => have hu := hu_of hr; ⟨_, _,
    (dss_cons (ds_set (i := 2) nd rfl (by first | exact Or.inl rfl | exact Or.inr rfl) (dt_fz (dt_call (n := 2) (φ := phi_law_mixed) (fun _ _ h => runF_len h) (ok_law_mixed T) (hr.mono (by decide)) (by rfl) T.g_law_mixed T.F_law_mixed.kp T.b_law_mixed (da_cons (dt_v 0) (da_cons dt_int da_nil)))))
      (dss_cons (ds_set (i := 3) nd rfl (by first | exact Or.inl rfl | exact Or.inr rfl) (DV.dt (dv_ix (DT.dv dt_str) (dt_mod (dt_v 2) dt_int))))
      (dss_cons (ds_set (i := 4) nd rfl (by first | exact Or.inl rfl | exact Or.inr rfl) dt_str)
      (dss_cons (ds_if (DW.dc (dw_and (dc_eq hr.units (DT.dv (dt_mod (dt_div (dt_v 2) dt_int) dt_int)) (DT.dv dt_int)) (dw_and1 (dc_lt (dv_v 1) (DT.dv dt_int))))) (dss_one (ds_ret (dt_comp (own := [("_law_k", 5)]) rfl nd (di_range1 (by rfl) T.m_range (da_cons (dt_v 1) da_nil)) (blkOk_by (own := [("_law_k", 5)]) (N := N_law_names) (sc := defScope s_law_names) (by decide +kernel)) (fun _ _ _ _ _ => (dg_name (i := 5) nd rfl (by first | exact Or.inl rfl | exact Or.inr rfl))) (fun _ _ _ _ _ => dts_nil) (fun _ _ _ _ _ => (dt_mulA (dt_v 3) (dt_sub (dt_v 1) (dt_v 5)))) (by decide)))) dss_nil)
      (dss_cons (ds_set (i := 6) nd rfl (by first | exact Or.inl rfl | exact Or.inr rfl) (dt_add dt_int (dt_mod (dt_div (dt_v 2) dt_int) dt_int)))
      (dss_cons (ds_set (i := 7) nd rfl (by first | exact Or.inl rfl | exact Or.inr rfl) (dt_mod (dt_div (dt_v 2) dt_int) (dt_v 6)))
      (dss_cons (ds_set (i := 8) nd rfl (by first | exact Or.inl rfl | exact Or.inr rfl) (dt_lst da_nil))
      (dss_cons (ds_for PassesOwn.never rfl (di_range1 (by rfl) T.m_range (da_cons (dt_v 1) da_nil)) (dg_name (i := 5) nd rfl (by first | exact Or.inl rfl | exact Or.inr rfl)) (dss_cons (ds_setLc (i := 9) (own := [("_law_place", 10)]) rfl nd rfl rfl (sw_true rfl rfl rfl (by decide +kernel)) (di_range1 (by rfl) T.m_range (da_cons (dt_v 6) da_nil)) (blkOk_by (own := [("_law_place", 10)]) (N := N_law_names) (sc := defScope s_law_names) (by decide +kernel)) (fun _ _ _ _ _ => (dg_name (i := 10) nd rfl (by first | exact Or.inl rfl | exact Or.inr rfl))) (fun _ _ _ _ _ => dts_nil) (fun _ _ _ _ _ => (dt_v 3)) (by decide))
      (dss_cons (ds_put 9 (DV.dt (dv_ix (dv_v 4) (dt_mod (dt_add (dt_div (dt_v 2) dt_int) (dt_mul dt_int (dt_v 5))) dt_int))) (dt_v 7))
      (dss_cons (ds_put 9 (DV.dt (dv_ix (dv_v 4) (dt_mod (dt_add (dt_div (dt_v 2) dt_int) (dt_div (dt_v 5) dt_int)) dt_int))) (dt_mod (dt_add (dt_v 7) dt_int) (dt_v 6)))
      (dss_one (ds_app 8 (dt_join dt_str (dv_v 9))))))))
      (dss_one (ds_ret (dt_m 8)))))))))))⟩
theorem ok_law_cell : FnOk K.P K.w K mg base CX0 1 f_law_cell d_law_cell ["_law_script", "_law_k"] (spD 2 phi_law_cell K) := by
  have nd : N_law_cell.Nodup := sc_law_cell.nd
  exact okD (Fb := F_law_cell) T.F_law_cell sc_law_cell rfl rfl fun cdv A outer s H E hr => have hu := hu_of hr; ⟨_, _,
    (dss_cons (ds_if (dc_lt (dv_v 1) (DT.dv (dt_len (by rfl) T.m_len (dv_v 0)))) (dss_one (ds_ret (DV.dt (dv_ix (dv_v 0) (dt_v 1))))) dss_nil)
      (dss_one (ds_ret dt_int)))⟩
theorem ok_law_coins : FnOk K.P K.w K mg base CX0 1 f_law_coins d_law_coins ["_law_cell_here", "_law_way", "_law_most"] (spD 3 phi_law_coins K) := by
  have nd : N_law_coins.Nodup := sc_law_coins.nd
  exact okD (Fb := F_law_coins) T.F_law_coins sc_law_coins rfl rfl fun cdv A outer s H E hr => have hu := hu_of hr; ⟨_, _,
    (dss_cons (ds_if (dc_eq hr.units (DT.dv (dt_mod (dt_v 1) dt_int)) (DT.dv dt_int)) (dss_one (ds_ret dt_int)) dss_nil)
      (dss_cons (ds_if (dc_eq hr.units (DT.dv (dt_mod (dt_v 1) dt_int)) (DT.dv dt_int)) (dss_one (ds_ret (dt_m 2))) dss_nil)
      (dss_cons (ds_if (dc_eq hr.units (DT.dv (dt_mod (dt_v 1) dt_int)) (DT.dv dt_int)) (dss_one (ds_ret (dt_add dt_int (dt_mod (dt_v 0) dt_int)))) dss_nil)
      (dss_cons (ds_if (dc_eq hr.units (DT.dv (dt_mod (dt_v 1) dt_int)) (DT.dv dt_int)) (dss_one (ds_ret (dt_add dt_int (dt_mod (dt_v 0) (dt_v 2))))) dss_nil)
      (dss_one (ds_ret (dt_add dt_int (dt_mod (dt_mul (dt_mul (dt_add (dt_mod (dt_v 0) (dt_v 2)) dt_int) (dt_add (dt_v 1) dt_int)) dt_int) (dt_v 2)))))))))⟩
theorem ok_law_plan : FnOk K.P K.w K mg base CX0 2 f_law_plan d_law_plan ["_law_cell_here", "_law_k"] (spD 2 phi_law_plan K) := by
  have nd : N_law_plan.Nodup := sc_law_plan.nd
  exact okD (Fb := F_law_plan) T.F_law_plan sc_law_plan rfl rfl fun cdv A outer s H E hr => have hu := hu_of hr; ⟨_, _,
    (dss_cons (ds_set (i := 2) nd rfl (by first | exact Or.inl rfl | exact Or.inr rfl) (dt_add dt_int (dt_mod (dt_call (n := 2) (φ := phi_law_mixed) (fun _ _ h => runF_len h) (ok_law_mixed T) (hr.mono (by decide)) (by rfl) T.g_law_mixed T.F_law_mixed.kp T.b_law_mixed (da_cons (dt_v 0) (da_cons (dt_add (dt_v 1) dt_int) da_nil))) dt_int)))
      (dss_cons (ds_if (DW.dc (dw_and (dc_eq hr.units (DT.dv (dt_mod (dt_v 1) dt_int)) (DT.dv dt_int)) (dw_and1 (dc_eq hr.units (DT.dv (dt_mod (dt_div (dt_call (n := 2) (φ := phi_law_mixed) (fun _ _ h => runF_len h) (ok_law_mixed T) (hr.mono (by decide)) (by rfl) T.g_law_mixed T.F_law_mixed.kp T.b_law_mixed (da_cons (dt_v 0) (da_cons (dt_add (dt_v 1) dt_int) da_nil))) dt_int) dt_int)) (DT.dv dt_int))))) (dss_one (ds_set (i := 2) nd rfl (by first | exact Or.inl rfl | exact Or.inr rfl) dt_int)) dss_nil)
      (dss_cons (ds_set (i := 3) nd rfl (by first | exact Or.inl rfl | exact Or.inr rfl) (dt_lst da_nil))
      (dss_cons (ds_set (i := 4) nd rfl (by first | exact Or.inl rfl | exact Or.inr rfl) dt_int)
      (dss_cons (ds_for PassesOwn.never rfl (di_range1 (by rfl) T.m_range (da_cons (dt_v 2) da_nil)) (dg_name (i := 5) nd rfl (by first | exact Or.inl rfl | exact Or.inr rfl)) (dss_cons (ds_set (i := 6) nd rfl (by first | exact Or.inl rfl | exact Or.inr rfl) (dt_fz (dt_call (n := 2) (φ := phi_law_mixed) (fun _ _ h => runF_len h) (ok_law_mixed T) (hr.mono (by decide)) (by rfl) T.g_law_mixed T.F_law_mixed.kp T.b_law_mixed (da_cons (dt_v 0) (da_cons (dt_add (dt_add dt_int (dt_mul dt_int (dt_v 1))) (dt_v 5)) da_nil)))))
      (dss_cons (ds_set (i := 4) nd rfl (by first | exact Or.inl rfl | exact Or.inr rfl) (dt_add (dt_add (dt_v 4) dt_int) (dt_mod (dt_v 6) (DV.dt (dv_ix (DT.dv (dt_lst (da_cons dt_int (da_cons dt_int (da_cons dt_int da_nil))))) (dt_mod (dt_call (n := 2) (φ := phi_law_mixed) (fun _ _ h => runF_len h) (ok_law_mixed T) (hr.mono (by decide)) (by rfl) T.g_law_mixed T.F_law_mixed.kp T.b_law_mixed (da_cons (dt_v 0) (da_cons (dt_v 1) da_nil))) dt_int))))))
      (dss_cons (ds_if (dc_gt (dv_v 4) (DT.dv dt_int)) (dss_one ds_break) dss_nil)
      (dss_one (ds_app 3 (dt_fz (dt_tup (da_cons (dt_v 4) (da_cons (dt_call (n := 3) (φ := phi_law_coins) (fun _ _ h => runF_len h) (ok_law_coins T) (hr.mono (by decide)) (by rfl) T.g_law_coins T.F_law_coins.kp T.b_law_coins (da_cons (dt_add (dt_v 0) (dt_v 5)) (da_cons (dt_mod (dt_div (dt_v 6) dt_int) dt_int) (da_cons (dt_pow dt_int dt_int) da_nil)))) da_nil))))))))))
      (dss_one (ds_ret (dt_m 3))))))))⟩
theorem ok_law_debts : FnOk K.P K.w K mg base CX0 3 f_law_debts d_law_debts ["_law_cells", "_law_names_here", "_law_pools"] (spD 3 phi_law_debts K) := by
  have nd : N_law_debts.Nodup := sc_law_debts.nd
  exact okD (Fb := F_law_debts) T.F_law_debts sc_law_debts rfl rfl fun cdv A outer s H E hr => have hu := hu_of hr; ⟨_, _,
    (dss_cons (ds_set (i := 3) nd rfl (by first | exact Or.inl rfl | exact Or.inr rfl) (dt_lst da_nil))
      (dss_cons (ds_for PassesOwn.never rfl (di_enum (by rfl) T.m_enumerate (da_cons (dt_v 0) da_nil)) (dg_tup rfl (dgs_cons (dg_name (i := 4) nd rfl (by first | exact Or.inl rfl | exact Or.inr rfl)) (dgs_cons (dg_name (i := 5) nd rfl (by first | exact Or.inl rfl | exact Or.inr rfl)) dgs_nil))) (dss_cons (ds_set (i := 6) nd rfl (by first | exact Or.inl rfl | exact Or.inr rfl) (dt_fz (dt_call (n := 2) (φ := phi_law_mixed) (fun _ _ h => runF_len h) (ok_law_mixed T) (hr.mono (by decide)) (by rfl) T.g_law_mixed T.F_law_mixed.kp T.b_law_mixed (da_cons (dt_v 5) (da_cons (dt_v 4) da_nil)))))
      (dss_one (ds_if (DW.dc (dw_and (dc_gt (DT.dv (dt_mod (dt_v 6) dt_int)) (DT.dv dt_int)) (dw_and1 (dc_lt (DT.dv (dt_len (by rfl) T.m_len (dv_v 3))) (DT.dv (dt_len (by rfl) T.m_len (dv_v 1))))))) (dss_one (ds_app 3 (dt_fz (dt_tup (da_cons (DV.dt (dv_ix (dv_v 1) (dt_len (by rfl) T.m_len (dv_v 3)))) (da_cons (DV.dt (dv_ix (dv_v 2) (dt_mod (dt_div (dt_v 6) dt_int) (dt_len (by rfl) T.m_len (dv_v 2))))) (da_cons (dt_call (n := 2) (φ := phi_law_plan) (fun _ _ h => runF_len h) (ok_law_plan T) (hr.mono (by decide)) (by rfl) T.g_law_plan T.F_law_plan.kp T.b_law_plan (da_cons (dt_v 5) (da_cons (dt_v 4) da_nil))) da_nil))))))) dss_nil))))
      (dss_one (ds_ret (dt_m 3)))))⟩
theorem ok_law_events : FnOk K.P K.w K mg base CX0 2 f_law_events d_law_events ["_law_cells", "_law_debts_here"] (spD 2 phi_law_events K) := by
  have nd : N_law_events.Nodup := sc_law_events.nd
  exact okD (Fb := F_law_events) T.F_law_events sc_law_events rfl rfl fun cdv A outer s H E hr => have hu := hu_of hr; ⟨_, _,
    (dss_cons (ds_set (i := 2) nd rfl (by first | exact Or.inl rfl | exact Or.inr rfl) (dt_lst da_nil))
      (dss_cons (ds_for PassesOwn.never rfl (di_enum (by rfl) T.m_enumerate (da_cons (dt_v 0) da_nil)) (dg_tup rfl (dgs_cons (dg_name (i := 3) nd rfl (by first | exact Or.inl rfl | exact Or.inr rfl)) (dgs_cons (dg_name (i := 4) nd rfl (by first | exact Or.inl rfl | exact Or.inr rfl)) dgs_nil))) (dss_cons (ds_set (i := 5) nd rfl (by first | exact Or.inl rfl | exact Or.inr rfl) (dt_fz (dt_call (n := 2) (φ := phi_law_mixed) (fun _ _ h => runF_len h) (ok_law_mixed T) (hr.mono (by decide)) (by rfl) T.g_law_mixed T.F_law_mixed.kp T.b_law_mixed (da_cons (dt_v 4) (da_cons (dt_v 3) da_nil)))))
      (dss_one (ds_if (DW.dc (dw_and (dc_eq hr.units (DT.dv (dt_mod (dt_v 5) dt_int)) (DT.dv dt_int)) (dw_and1 (dc_ne hr.units (dv_v 1) (DT.dv (dt_lst da_nil)))))) (dss_cons (ds_set (i := 6) nd rfl (by first | exact Or.inl rfl | exact Or.inr rfl) (dt_fz (dt_call (n := 2) (φ := phi_law_mixed) (fun _ _ h => runF_len h) (ok_law_mixed T) (hr.mono (by decide)) (by rfl) T.g_law_mixed T.F_law_mixed.kp T.b_law_mixed (da_cons (dt_v 4) (da_cons (dt_add (dt_v 3) dt_int) da_nil)))))
      (dss_cons (ds_set (i := 7) nd rfl (by first | exact Or.inl rfl | exact Or.inr rfl) (DV.dt (dv_ix (dv_v 1) (dt_mod (dt_v 6) (dt_len (by rfl) T.m_len (dv_v 1))))))
      (dss_cons (ds_set (i := 8) nd rfl (by first | exact Or.inl rfl | exact Or.inr rfl) (dt_add dt_int (dt_mod (dt_div (dt_v 6) dt_int) (DV.dt (dv_ix (DT.dv (dt_lst (da_cons dt_int (da_cons dt_int (da_cons dt_int da_nil))))) (dt_mod (dt_div (dt_v 6) dt_int) dt_int))))))
      (dss_cons (ds_if (dc_gt (DT.dv (dt_mod (dt_div (dt_v 6) dt_int) dt_int)) (DT.dv dt_int)) (dss_one (ds_set (i := 8) nd rfl (by first | exact Or.inl rfl | exact Or.inr rfl) (DV.dt (dv_ix (dv_ix (dv_ix (dv_v 7) dt_int) (dt_mod (dt_div (dt_v 6) dt_int) (dt_len (by rfl) T.m_len (dv_ix (dv_v 7) dt_int)))) dt_int)))) dss_nil)
      (dss_one (ds_if (dc_lt (DT.dv (dt_mod (dt_div (dt_v 5) dt_int) dt_int)) (DT.dv dt_int)) (dss_one (ds_app 2 (dt_fz (dt_tup (da_cons dt_str (da_cons (DV.dt (dv_ix (dv_v 7) dt_int)) (da_cons (dt_v 8) (da_cons (dt_add dt_int (dt_mod (dt_div (dt_v 6) dt_int) (DV.dt (dv_ix (DT.dv (dt_lst (da_cons dt_int (da_cons dt_int da_nil)))) (dt_mod (dt_div (dt_v 6) dt_int) dt_int))))) da_nil)))))))) (dss_one (ds_app 2 (dt_fz (dt_tup (da_cons (DV.dt (dv_ix (DT.dv (dt_lst (da_cons dt_str (da_cons dt_str (da_cons dt_str da_nil))))) (dt_mod (dt_div (dt_v 5) dt_int) dt_int))) (da_cons (DV.dt (dv_ix (dv_v 7) dt_int)) (da_cons (dt_v 8) da_nil))))))))))))) dss_nil))))
      (dss_one (ds_ret (dt_m 2)))))⟩
theorem ok_law_amounts : FnOk K.P K.w K mg base CX0 1 f_law_amounts d_law_amounts ["_law_debts_here"] (spD 1 phi_law_amounts K) := by
  have nd : N_law_amounts.Nodup := sc_law_amounts.nd
  exact okD (Fb := F_law_amounts) T.F_law_amounts sc_law_amounts rfl rfl fun cdv A outer s H E hr => have hu := hu_of hr; ⟨_, _,
    (dss_cons (ds_set (i := 1) nd rfl (by first | exact Or.inl rfl | exact Or.inr rfl) (dt_lst da_nil))
      (dss_cons (ds_for PassesOwn.never rfl (di_list (dt_v 0)) (dg_tup rfl (dgs_cons (dg_name (i := 2) nd rfl (by first | exact Or.inl rfl | exact Or.inr rfl)) (dgs_cons (dg_name (i := 3) nd rfl (by first | exact Or.inl rfl | exact Or.inr rfl)) (dgs_cons (dg_name (i := 4) nd rfl (by first | exact Or.inl rfl | exact Or.inr rfl)) dgs_nil)))) (dss_one (ds_extP (dp_name 1) (dt_comp (own := [("_law_day", 5), ("_law_coins_here", 6)]) rfl nd (di_list (dt_v 4)) (blkOk_by (own := [("_law_day", 5), ("_law_coins_here", 6)]) (N := N_law_amounts) (sc := defScope s_law_amounts) (by decide +kernel)) (fun _ _ _ _ _ => (dg_tup rfl (dgs_cons (dg_name (i := 5) nd rfl (by first | exact Or.inl rfl | exact Or.inr rfl)) (dgs_cons (dg_name (i := 6) nd rfl (by first | exact Or.inl rfl | exact Or.inr rfl)) dgs_nil)))) (fun _ _ _ _ _ => dts_nil) (fun _ _ _ _ _ => (dt_lst (da_cons (dt_v 2) (da_cons (dt_v 5) (da_cons (dt_v 6) (da_cons dt_str da_nil)))))) (by decide)))))
      (dss_one (ds_ret (dt_m 1)))))⟩
theorem ok_law_event : FnOk K.P K.w K mg base CX0 1 f_law_event d_law_event ["_law_amounts_here", "_law_event_here"] (spM 1 phi_law_event K) := by
  have nd : N_law_event.Nodup := sc_law_event.nd
  exact okM (Fb := F_law_event) T.F_law_event sc_law_event rfl rfl (by decide) fun cdv A outer s H E hr => have hu := hu_of hr; ⟨_, _,
    (dss_one (ds_forP (j := 2) 0 PassesOwn.never rfl nd rfl (by first | exact Or.inl rfl | exact Or.inr rfl) (dss_cons (ds_if (DW.dc (dw_or (dc_ne hr.units (dv_ix (dv_v 2) dt_int) (dv_ix (dv_v 1) dt_int)) (dw_or1 (dc_ne hr.units (dv_ix (dv_v 2) dt_int) (DT.dv dt_str))))) (dss_one ds_continue) dss_nil)
      (dss_one (ds_if (dc_eq hr.units (dv_ix (dv_v 1) dt_int) (DT.dv dt_str)) (dss_cons (ds_put 2 (DV.dt (dv_ix (dv_v 1) dt_int)) dt_int)
      (dss_one (ds_put 2 dt_str dt_int))) (dss_one (ds_if (dc_eq hr.units (dv_ix (dv_v 1) dt_int) (DT.dv dt_str)) (dss_one (ds_put 2 (DV.dt (dv_ix (dv_v 1) dt_int)) dt_int)) (dss_one (ds_if (dc_eq hr.units (dv_ix (dv_v 2) dt_int) (dv_ix (dv_v 1) dt_int)) (dss_one (ds_put 2 (dt_add (DV.dt (dv_ix (dv_v 1) dt_int)) (DV.dt (dv_ix (dv_v 1) dt_int))) dt_int)) dss_nil))))))) (by decide) (by decide))), by decide⟩
theorem ok_law_walked : FnOk K.P K.w K mg base CX0 2 f_law_walked d_law_walked ["_law_amounts_here", "_law_events_here", "_law_many"] (spM 2 phi_law_walked K) := by
  have nd : N_law_walked.Nodup := sc_law_walked.nd
  exact okM (Fb := F_law_walked) T.F_law_walked sc_law_walked rfl rfl (by decide) fun cdv A outer s H E hr => have hu := hu_of hr; ⟨_, _,
    (dss_one (ds_for PassesOwn.never rfl (di_range2 (by rfl) T.m_range (da_cons dt_int (da_cons (dt_add (dt_v 2) dt_int) da_nil))) (dg_name (i := 3) nd rfl (by first | exact Or.inl rfl | exact Or.inr rfl)) (dss_cons (ds_for PassesOwn.never rfl (di_list (dt_v 1)) (dg_name (i := 4) nd rfl (by first | exact Or.inl rfl | exact Or.inr rfl)) (dss_one (ds_if (dc_eq hr.units (dv_ix (dv_v 4) dt_int) (dv_v 3)) (dss_one (ds_dropX (dx_callM (n := 1) (φ := phi_law_event) (fun _ _ _ h => runM_len h) (ok_law_event T) (hr.mono (by decide)) (by rfl) T.g_law_event T.F_law_event.kp T.b_law_event (dp_name 0) (da_cons (dt_v 4) da_nil)))) dss_nil)))
      (dss_one (ds_forP (j := 5) 0 PassesOwn.never rfl nd rfl (by first | exact Or.inl rfl | exact Or.inr rfl) (dss_one (ds_if (DW.dc (dw_and (dc_eq hr.units (dv_ix (dv_v 5) dt_int) (dv_v 3)) (dw_and1 (dc_eq hr.units (dv_ix (dv_v 5) dt_int) (DT.dv dt_str))))) (dss_one (ds_put 5 dt_str dt_int)) dss_nil)) (by decide) (by decide)))))), by decide⟩
theorem ok_law_sums : FnOk K.P K.w K mg base CX0 1 f_law_sums d_law_sums ["_law_amounts_here"] (spD 1 phi_law_sums K) := by
  have nd : N_law_sums.Nodup := sc_law_sums.nd
  exact okD (Fb := F_law_sums) T.F_law_sums sc_law_sums rfl rfl fun cdv A outer s H E hr => have hu := hu_of hr; ⟨_, _,
    (dss_cons (ds_set (i := 1) nd rfl (by first | exact Or.inl rfl | exact Or.inr rfl) dt_dt)
      (dss_cons (ds_for PassesOwn.never rfl (di_list (dt_v 0)) (dg_tupL rfl (dgs_cons (dg_name (i := 2) nd rfl (by first | exact Or.inl rfl | exact Or.inr rfl)) (dgs_cons (dg_name (i := 3) nd rfl (by first | exact Or.inl rfl | exact Or.inr rfl)) (dgs_cons (dg_name (i := 4) nd rfl (by first | exact Or.inl rfl | exact Or.inr rfl)) (dgs_cons (dg_name (i := 5) nd rfl (by first | exact Or.inl rfl | exact Or.inr rfl)) dgs_nil))))) (dss_cons (ds_if (dc_eq hr.units (dv_v 5) (DT.dv dt_str)) (dss_one (ds_set (i := 3) nd rfl (by first | exact Or.inl rfl | exact Or.inr rfl) dt_int)) dss_nil)
      (dss_one (ds_putT hu (dp_name 1) (dt_tup (da_cons (dt_v 5) (da_cons (dt_v 3) (da_cons (dt_v 2) da_nil)))) (dt_add (dt_dgetT hu (dv_v 1) (dt_tup (da_cons (dt_v 5) (da_cons (dt_v 3) (da_cons (dt_v 2) da_nil)))) dt_int) (dt_v 4))))))
      (dss_one (ds_ret (dt_m 1)))))⟩
theorem ok_law_pairs : FnOk K.P K.w K mg base CX0 1 f_law_pairs d_law_pairs ["_law_sums_here", "_law_fate", "_law_day", "_law_debts_here"] (spD 4 phi_law_pairs K) := by
  have nd : N_law_pairs.Nodup := sc_law_pairs.nd
  exact okD (Fb := F_law_pairs) T.F_law_pairs sc_law_pairs rfl rfl fun cdv A outer s H E hr => have hu := hu_of hr; ⟨_, _,
    (dss_cons (ds_set (i := 4) nd rfl (by first | exact Or.inl rfl | exact Or.inr rfl) (dt_lst da_nil))
      (dss_cons (ds_for PassesOwn.never rfl (di_list (dt_v 3)) (dg_tup rfl (dgs_cons (dg_name (i := 5) nd rfl (by first | exact Or.inl rfl | exact Or.inr rfl)) (dgs_cons (dg_name (i := 6) nd rfl (by first | exact Or.inl rfl | exact Or.inr rfl)) (dgs_cons (dg_name (i := 7) nd rfl (by first | exact Or.inl rfl | exact Or.inr rfl)) dgs_nil)))) (dss_one (ds_if (dc_dinT hu (DT.dv (dt_tup (da_cons (dt_v 1) (da_cons (dt_v 2) (da_cons (dt_v 5) da_nil))))) (dv_v 0)) (dss_one (ds_app 4 (dt_fz (dt_tup (da_cons (dt_v 5) (da_cons (dt_dixT hu (dv_v 0) (dt_tup (da_cons (dt_v 1) (da_cons (dt_v 2) (da_cons (dt_v 5) da_nil))))) da_nil)))))) dss_nil)))
      (dss_one (ds_ret (dt_m 4)))))⟩
theorem ok_event_done : FnOk K.P K.w K mg base CX0 1 f_event_done d_event_done ["plans", "event"] (spM 1 phi_event_done K) := by
  have nd : N_event_done.Nodup := sc_event_done.nd
  exact okM (Fb := F_event_done) T.F_event_done sc_event_done rfl rfl (by decide) fun cdv A outer s H E hr => have hu := hu_of hr; ⟨_, _,
    (dss_cons (ds_set (i := 2) nd rfl (by first | exact Or.inl rfl | exact Or.inr rfl) (DV.dt (dv_ix (dv_v 1) dt_int)))
      (dss_cons (ds_set (i := 3) nd rfl (by first | exact Or.inl rfl | exact Or.inr rfl) (DV.dt (dv_ix (dv_v 1) dt_int)))
      (dss_cons (ds_if (dc_eq hr.units (dv_ix (dv_v 1) dt_int) (DT.dv dt_str)) (dss_cons (ds_setX (i := 4) nd rfl (by first | exact Or.inl rfl | exact Or.inr rfl) (dx_pop (dp_key hu (dp_name 0) (dt_v 2)) (dt_v 3) dt_int))
      (dss_cons (ds_if (dc_gt (dv_v 4) (DT.dv dt_int)) (dss_one (ds_putP hu (dp_key hu (dp_name 0) (dt_v 2)) (dt_add (dt_v 3) (DV.dt (dv_ix (dv_v 1) dt_int))) (dt_add (dt_dget hu (dv_dk hu (dv_v 0) (dt_v 2)) (dt_add (dt_v 3) (DV.dt (dv_ix (dv_v 1) dt_int))) dt_int) (dt_v 4)))) dss_nil)
      (dss_one (ds_ret dt_int)))) dss_nil)
      (dss_cons (ds_set (i := 4) nd rfl (by first | exact Or.inl rfl | exact Or.inr rfl) (dt_sum rfl (by rfl) T.m_sum (DT.dv (dt_listVals rfl (by rfl) T.m_list (dv_dk hu (dv_v 0) (dt_v 2))))))
      (dss_cons (ds_putP hu (dp_name 0) (dt_v 2) dt_dn)
      (dss_cons (ds_if (dc_eq hr.units (dv_ix (dv_v 1) dt_int) (DT.dv dt_str)) (dss_one (ds_ret (dt_m 4))) dss_nil)
      (dss_cons (ds_if (dc_gt (dv_v 4) (DT.dv dt_int)) (dss_one (ds_putP hu (dp_key hu (dp_name 0) (dt_v 2)) (dt_v 3) (dt_v 4))) dss_nil)
      (dss_one (ds_ret dt_int))))))))), by decide⟩
theorem ok_one_day : FnOk K.P K.w K mg base CX0 2 f_one_day d_one_day ["plans", "events", "day"] (spM 2 phi_one_day K) := by
  have nd : N_one_day.Nodup := sc_one_day.nd
  exact okM (Fb := F_one_day) T.F_one_day sc_one_day rfl rfl (by decide) fun cdv A outer s H E hr => have hu := hu_of hr; ⟨_, _,
    (dss_cons (ds_set (i := 3) nd rfl (by first | exact Or.inl rfl | exact Or.inr rfl) dt_dn)
      (dss_cons (ds_for PassesOwn.never rfl (di_list (dt_v 1)) (dg_name (i := 4) nd rfl (by first | exact Or.inl rfl | exact Or.inr rfl)) (dss_one (ds_if (dc_eq hr.units (dv_ix (dv_v 4) dt_int) (dv_v 2)) (dss_one (ds_putPX hu (dp_name 3) (DV.dt (dv_ix (dv_v 4) dt_int)) (dx_add (DT.dx (dt_dget hu (dv_v 3) (DV.dt (dv_ix (dv_v 4) dt_int)) dt_int)) (dx_callM (n := 1) (φ := phi_event_done) (fun _ _ _ h => runM_len h) (ok_event_done T) (hr.mono (by decide)) (by rfl) T.g_event_done T.F_event_done.kp T.b_event_done (dp_name 0) (da_cons (dt_v 4) da_nil))))) dss_nil)))
      (dss_cons (ds_set (i := 5) nd rfl (by first | exact Or.inl rfl | exact Or.inr rfl) (dt_lst da_nil))
      (dss_cons (ds_set (i := 6) nd rfl (by first | exact Or.inl rfl | exact Or.inr rfl) (dt_lst da_nil))
      (dss_cons (ds_for PassesOwn.never rfl (di_list (dt_fz (dt_listD rfl (by rfl) T.m_list (dv_v 0)))) (dg_name (i := 7) nd rfl (by first | exact Or.inl rfl | exact Or.inr rfl)) (dss_cons (ds_setX (i := 8) nd rfl (by first | exact Or.inl rfl | exact Or.inr rfl) (dx_pop (dp_key hu (dp_name 0) (dt_v 7)) (dt_v 2) dt_int))
      (dss_cons (ds_if (dc_gt (dv_v 8) (DT.dv dt_int)) (dss_one (ds_app 5 (dt_fz (dt_tup (da_cons (dt_v 7) (da_cons (dt_v 8) da_nil)))))) dss_nil)
      (dss_one (ds_if (dc_gt (DT.dv (dt_dget hu (dv_v 3) (dt_v 7) dt_int)) (DT.dv dt_int)) (dss_one (ds_app 6 (dt_fz (dt_tup (da_cons (dt_v 7) (da_cons (dt_dix hu (dv_v 3) (dt_v 7)) da_nil)))))) dss_nil)))))
      (dss_one (ds_ret (dt_tup (da_cons (dt_m 5) (da_cons (dt_m 6) da_nil)))))))))), by decide⟩
theorem ok_told_days : FnOk K.P K.w K mg base CX0 3 f_told_days d_told_days ["debts", "events", "many"] (spD 3 phi_told_days K) := by
  have nd : N_told_days.Nodup := sc_told_days.nd
  exact okD (Fb := F_told_days) T.F_told_days sc_told_days rfl rfl fun cdv A outer s H E hr => have hu := hu_of hr; ⟨_, _,
    (dss_cons (ds_set (i := 3) nd rfl (by first | exact Or.inl rfl | exact Or.inr rfl) dt_dn)
      (dss_cons (ds_for PassesOwn.never rfl (di_list (dt_v 0)) (dg_tup rfl (dgs_cons (dg_name (i := 4) nd rfl (by first | exact Or.inl rfl | exact Or.inr rfl)) (dgs_cons (dg_name (i := 5) nd rfl (by first | exact Or.inl rfl | exact Or.inr rfl)) (dgs_cons (dg_name (i := 6) nd rfl (by first | exact Or.inl rfl | exact Or.inr rfl)) dgs_nil)))) (dss_one (ds_putP hu (dp_name 3) (dt_v 4) (dt_dictP rfl (by rfl) T.m_dict (dv_v 6)))))
      (dss_cons (ds_setLcX (i := 7) (own := [("day", 8)]) rfl nd rfl rfl (sw_true rfl rfl rfl (by decide +kernel)) (di_range2 (by rfl) T.m_range (da_cons dt_int (da_cons (dt_add (dt_v 2) dt_int) da_nil))) (blkOk_by (own := [("day", 8)]) (N := N_told_days) (sc := defScope s_told_days) (by decide +kernel)) (fun _ _ _ _ _ => (dg_name (i := 8) nd rfl (by first | exact Or.inl rfl | exact Or.inr rfl))) (fun _ _ _ _ _ => dts_nil) (fun _ _ _ _ _ => (dx_callM (n := 2) (φ := phi_one_day) (fun _ _ _ h => runM_len h) (ok_one_day T) (hr.mono (by decide)) (by rfl) T.g_one_day T.F_one_day.kp T.b_one_day (dp_name 3) (da_cons (dt_v 1) (da_cons (dt_v 8) da_nil)))) (by decide))
      (dss_cons (ds_set (i := 9) nd rfl (by first | exact Or.inl rfl | exact Or.inr rfl) (dt_lst da_nil))
      (dss_cons (ds_forKeys 3 PassesOwn.never rfl (dg_name (i := 4) nd rfl (by first | exact Or.inl rfl | exact Or.inr rfl)) (dss_cons (ds_set (i := 10) nd rfl (by first | exact Or.inl rfl | exact Or.inr rfl) (dt_sum rfl (by rfl) T.m_sum (DT.dv (dt_listVals rfl (by rfl) T.m_list (dv_dk hu (dv_v 3) (dt_v 4))))))
      (dss_one (ds_if (dc_gt (dv_v 10) (DT.dv dt_int)) (dss_one (ds_app 9 (dt_fz (dt_tup (da_cons (dt_v 4) (da_cons (dt_v 10) da_nil)))))) dss_nil))))
      (dss_one (ds_ret (dt_tup (da_cons (dt_m 7) (da_cons (dt_m 9) da_nil))))))))))⟩
theorem ok_law_total : FnOk K.P K.w K mg base CX0 1 f_law_total d_law_total ["_law_pairs_here", "_law_name"] (spD 2 phi_law_total K) := by
  have nd : N_law_total.Nodup := sc_law_total.nd
  exact okD (Fb := F_law_total) T.F_law_total sc_law_total rfl rfl fun cdv A outer s H E hr => have hu := hu_of hr; ⟨_, _,
    (dss_one (ds_ret (dt_sum rfl (by rfl) T.m_sum (DT.dv (dt_comp (own := [("_law_one", 2), ("_law_coins_here", 3)]) rfl nd (di_list (dt_v 0)) (blkOk_by (own := [("_law_one", 2), ("_law_coins_here", 3)]) (N := N_law_total) (sc := defScope s_law_total) (by decide +kernel)) (fun _ _ _ _ _ => (dg_tup rfl (dgs_cons (dg_name (i := 2) nd rfl (by first | exact Or.inl rfl | exact Or.inr rfl)) (dgs_cons (dg_name (i := 3) nd rfl (by first | exact Or.inl rfl | exact Or.inr rfl)) dgs_nil)))) (fun _ _ _ _ _ => (dts_one (dc_eq hr.units (dv_v 2) (dv_v 1)))) (fun _ _ _ _ _ => (dt_v 3)) (by decide))))))⟩
theorem ok_law_each : FnOk K.P K.w K mg base CX0 2 f_law_each d_law_each ["_law_found", "_law_debts_here"] (spD 2 phi_law_each K) := by
  have nd : N_law_each.Nodup := sc_law_each.nd
  exact okD (Fb := F_law_each) T.F_law_each sc_law_each rfl rfl fun cdv A outer s H E hr => have hu := hu_of hr; ⟨_, _,
    (dss_cons (ds_set (i := 2) nd rfl (by first | exact Or.inl rfl | exact Or.inr rfl) (dt_fz (dt_list (by rfl) T.m_list (dv_ix (dv_v 0) dt_int))))
      (dss_cons (ds_for PassesOwn.never rfl (di_list (DV.dt (dv_ix (dv_v 0) dt_int))) (dg_tup rfl (dgs_cons (dg_name (i := 3) nd rfl (by first | exact Or.inl rfl | exact Or.inr rfl)) (dgs_cons (dg_name (i := 4) nd rfl (by first | exact Or.inl rfl | exact Or.inr rfl)) dgs_nil))) (dss_one (ds_set (i := 2) nd rfl (by first | exact Or.inl rfl | exact Or.inr rfl) (dt_fz (dt_cat (DT.dv (dt_cat (dv_v 2) (dv_v 3))) (dv_v 4))))))
      (dss_cons (ds_for PassesOwn.never rfl (di_list (dt_v 1)) (dg_tup rfl (dgs_cons (dg_name (i := 5) nd rfl (by first | exact Or.inl rfl | exact Or.inr rfl)) (dgs_cons (dg_name (i := 6) nd rfl (by first | exact Or.inl rfl | exact Or.inr rfl)) (dgs_cons (dg_name (i := 7) nd rfl (by first | exact Or.inl rfl | exact Or.inr rfl)) dgs_nil)))) (dss_one (ds_if (dc_ne hr.units (DT.dv (dt_call (n := 2) (φ := phi_law_total) (fun _ _ h => runF_len h) (ok_law_total T) (hr.mono (by decide)) (by rfl) T.g_law_total T.F_law_total.kp T.b_law_total (da_cons (dt_v 2) (da_cons (dt_v 5) da_nil)))) (DT.dv (dt_sum rfl (by rfl) T.m_sum (DT.dv (dt_comp (own := [("_law_day", 8), ("_law_coins_here", 9)]) rfl nd (di_list (dt_v 7)) (blkOk_by (own := [("_law_day", 8), ("_law_coins_here", 9)]) (N := N_law_each) (sc := defScope s_law_each) (by decide +kernel)) (fun _ _ _ _ _ => (dg_tup rfl (dgs_cons (dg_name (i := 8) nd rfl (by first | exact Or.inl rfl | exact Or.inr rfl)) (dgs_cons (dg_name (i := 9) nd rfl (by first | exact Or.inl rfl | exact Or.inr rfl)) dgs_nil)))) (fun _ _ _ _ _ => dts_nil) (fun _ _ _ _ _ => (dt_v 9)) (by decide)))))) (dss_one (ds_ret dt_bl)) dss_nil)))
      (dss_one (ds_ret dt_bl)))))⟩
theorem ok_law_alike (n : Nat) : FnOk K.P K.w K mg base CX0 (n + 1) f_law_alike d_law_alike ["_law_found", "_law_due"] (spD 2 (phi_law_alike n) K) := by
  induction n with
  | zero => exact fn_none (P := K.P) (w := K.w)
  | succ n IH =>
    have nd : N_law_alike.Nodup := sc_law_alike.nd
    rw [show n + 1 + 1 = n + 1 + 1 by omega]
    exact okD (Fb := F_law_alike (phi_law_alike n)) T.F_law_alike sc_law_alike rfl rfl fun cdv A outer s H E hr => have hu := hu_of hr; ⟨_, _,
      (dss_cons (ds_if (dc_is (dv_v 1) (DT.dv dt_non)) (dss_one (ds_ret (dt_is (dv_v 0) (DT.dv dt_non)))) dss_nil)
      (dss_cons (ds_if (dc_val (dt_isi (ty := "bool") (by rfl) T.m_isinstance (dv_v 1) (by rfl) T.m_bool (by decide +kernel))) (dss_one (ds_ret (dt_and (dt_isi (ty := "bool") (by rfl) T.m_isinstance (dv_v 0) (by rfl) T.m_bool (by decide +kernel)) (dt_one (dt_eq hr.units (dv_v 0) (dv_v 1)))))) dss_nil)
      (dss_cons (ds_if (dc_val (dt_isi (ty := "int") (by rfl) T.m_isinstance (dv_v 1) (by rfl) T.m_int (by decide +kernel))) (dss_one (ds_ret (dt_and (dt_isi (ty := "int") (by rfl) T.m_isinstance (dv_v 0) (by rfl) T.m_int (by decide +kernel)) (dt_and (dt_not (dt_isi (ty := "bool") (by rfl) T.m_isinstance (dv_v 0) (by rfl) T.m_bool (by decide +kernel))) (dt_one (dt_eq hr.units (dv_v 0) (dv_v 1))))))) dss_nil)
      (dss_cons (ds_if (dc_val (dt_isi (ty := "str") (by rfl) T.m_isinstance (dv_v 1) (by rfl) T.m_str (by decide +kernel))) (dss_one (ds_ret (dt_and (dt_isi (ty := "str") (by rfl) T.m_isinstance (dv_v 0) (by rfl) T.m_str (by decide +kernel)) (dt_one (dt_eq hr.units (dv_v 0) (dv_v 1)))))) dss_nil)
      (dss_cons (ds_if (DW.dc (dw_and (dc_val (dt_isi (ty := "tuple") (by rfl) T.m_isinstance (dv_v 1) (by rfl) T.m_tuple (by decide +kernel))) (dw_and1 (dc_not (dc_val (dt_isi (ty := "tuple") (by rfl) T.m_isinstance (dv_v 0) (by rfl) T.m_tuple (by decide +kernel))))))) (dss_one (ds_ret dt_bl)) dss_nil)
      (dss_cons (ds_if (DW.dc (dw_and (dc_val (dt_isi (ty := "list") (by rfl) T.m_isinstance (dv_v 1) (by rfl) T.m_list (by decide +kernel))) (dw_and1 (dc_not (dc_val (dt_isi (ty := "list") (by rfl) T.m_isinstance (dv_v 0) (by rfl) T.m_list (by decide +kernel))))))) (dss_one (ds_ret dt_bl)) dss_nil)
      (dss_cons (ds_if (dc_ne hr.units (DT.dv (dt_len (by rfl) T.m_len (dv_v 0))) (DT.dv (dt_len (by rfl) T.m_len (dv_v 1)))) (dss_one (ds_ret dt_bl)) dss_nil)
      (dss_cons (ds_for PassesOwn.never rfl (di_range1 (by rfl) T.m_range (da_cons (dt_len (by rfl) T.m_len (dv_v 1)) da_nil)) (dg_name (i := 2) nd rfl (by first | exact Or.inl rfl | exact Or.inr rfl)) (dss_one (ds_if (dc_not (dc_val (dt_call (n := 2) (φ := phi_law_alike n) (by cases n with | zero => exact fun _ _ h => nomatch h | succ n => exact fun _ _ h => runF_len h) IH hr (by rfl) T.g_law_alike T.F_law_alike.kp T.b_law_alike (da_cons (DV.dt (dv_ix (dv_v 0) (dt_v 2))) (da_cons (DV.dt (dv_ix (dv_v 1) (dt_v 2))) da_nil))))) (dss_one (ds_ret dt_bl)) dss_nil)))
      (dss_one (ds_ret dt_bl))))))))))⟩
theorem ok_law : FnOk K.P K.w K mg base CX0 10 f_law d_law ["_law_script"] (spD 1 phi_law K) := by
  have nd : N_law.Nodup := sc_law.nd
  exact okD (Fb := F_law) T.F_law sc_law rfl rfl fun cdv A outer s H E hr => have hu := hu_of hr; ⟨_, _,
    (dss_cons (ds_set (i := 1) nd rfl (by first | exact Or.inl rfl | exact Or.inr rfl) (dt_fz (dt_call (n := 2) (φ := phi_law_names) (fun _ _ h => runF_len h) (ok_law_names T) (hr.mono (by decide)) (by rfl) T.g_law_names T.F_law_names.kp T.b_law_names (da_cons (dt_call (n := 2) (φ := phi_law_cell) (fun _ _ h => runF_len h) (ok_law_cell T) (hr.mono (by decide)) (by rfl) T.g_law_cell T.F_law_cell.kp T.b_law_cell (da_cons (dt_v 0) (da_cons dt_int da_nil))) (da_cons dt_int da_nil)))))
      (dss_cons (ds_set (i := 2) nd rfl (by first | exact Or.inl rfl | exact Or.inr rfl) (dt_fz (dt_call (n := 3) (φ := phi_law_debts) (fun _ _ h => runF_len h) (ok_law_debts T) (hr.mono (by decide)) (by rfl) T.g_law_debts T.F_law_debts.kp T.b_law_debts (da_cons (dt_fz (dt_sl (dv_v 0) (do_some dt_int) (do_some dt_int))) (da_cons (dt_v 1) (da_cons (dt_fz (dt_lst (da_cons dt_str da_nil))) da_nil))))))
      (dss_cons (ds_set (i := 3) nd rfl (by first | exact Or.inl rfl | exact Or.inr rfl) (dt_fz (dt_call (n := 2) (φ := phi_law_events) (fun _ _ h => runF_len h) (ok_law_events T) (hr.mono (by decide)) (by rfl) T.g_law_events T.F_law_events.kp T.b_law_events (da_cons (dt_fz (dt_sl (dv_v 0) (do_some dt_int) (do_some dt_int))) (da_cons (dt_v 2) da_nil)))))
      (dss_cons (ds_set (i := 4) nd rfl (by first | exact Or.inl rfl | exact Or.inr rfl) (dt_fz (dt_call (n := 2) (φ := phi_law_mixed) (fun _ _ h => runF_len h) (ok_law_mixed T) (hr.mono (by decide)) (by rfl) T.g_law_mixed T.F_law_mixed.kp T.b_law_mixed (da_cons (dt_call (n := 2) (φ := phi_law_cell) (fun _ _ h => runF_len h) (ok_law_cell T) (hr.mono (by decide)) (by rfl) T.g_law_cell T.F_law_cell.kp T.b_law_cell (da_cons (dt_v 0) (da_cons dt_int da_nil))) (da_cons dt_int da_nil)))))
      (dss_cons (ds_set (i := 5) nd rfl (by first | exact Or.inl rfl | exact Or.inr rfl) (DV.dt (dv_ix (DT.dv (dt_lst (da_cons dt_int (da_cons dt_int (da_cons dt_int (da_cons (dt_mod (dt_div (dt_v 4) dt_int) dt_int) (da_cons dt_int (da_cons (dt_add dt_int (dt_mod (dt_div (dt_v 4) dt_int) dt_int)) (da_cons dt_int da_nil))))))))) (dt_mod (dt_v 4) dt_int))))
      (dss_cons (ds_set (i := 6) nd rfl (by first | exact Or.inl rfl | exact Or.inr rfl) (dt_call (n := 1) (φ := phi_law_amounts) (fun _ _ h => runF_len h) (ok_law_amounts T) (hr.mono (by decide)) (by rfl) T.g_law_amounts T.F_law_amounts.kp T.b_law_amounts (da_cons (dt_v 2) da_nil)))
      (dss_cons (ds_dropX (dx_callM (n := 2) (φ := phi_law_walked) (fun _ _ _ h => runM_len h) (ok_law_walked T) (hr.mono (by decide)) (by rfl) T.g_law_walked T.F_law_walked.kp T.b_law_walked (dp_name 6) (da_cons (dt_v 3) (da_cons (dt_v 5) da_nil))))
      (dss_cons (ds_set (i := 7) nd rfl (by first | exact Or.inl rfl | exact Or.inr rfl) (dt_fz (dt_call (n := 1) (φ := phi_law_sums) (fun _ _ h => runF_len h) (ok_law_sums T) (hr.mono (by decide)) (by rfl) T.g_law_sums T.F_law_sums.kp T.b_law_sums (da_cons (dt_v 6) da_nil))))
      (dss_cons (ds_set (i := 8) nd rfl (by first | exact Or.inl rfl | exact Or.inr rfl) (dt_lst da_nil))
      (dss_cons (ds_for PassesOwn.never rfl (di_range2 (by rfl) T.m_range (da_cons dt_int (da_cons (dt_add (dt_v 5) dt_int) da_nil))) (dg_name (i := 9) nd rfl (by first | exact Or.inl rfl | exact Or.inr rfl)) (dss_one (ds_app 8 (dt_fz (dt_tup (da_cons (dt_call (n := 4) (φ := phi_law_pairs) (fun _ _ h => runF_len h) (ok_law_pairs T) (hr.mono (by decide)) (by rfl) T.g_law_pairs T.F_law_pairs.kp T.b_law_pairs (da_cons (dt_v 7) (da_cons dt_str (da_cons (dt_v 9) (da_cons (dt_v 2) da_nil))))) (da_cons (dt_call (n := 4) (φ := phi_law_pairs) (fun _ _ h => runF_len h) (ok_law_pairs T) (hr.mono (by decide)) (by rfl) T.g_law_pairs T.F_law_pairs.kp T.b_law_pairs (da_cons (dt_v 7) (da_cons dt_str (da_cons (dt_v 9) (da_cons (dt_v 2) da_nil))))) da_nil)))))))
      (dss_cons (ds_set (i := 10) nd rfl (by first | exact Or.inl rfl | exact Or.inr rfl) (dt_fz (dt_tup (da_cons (dt_v 8) (da_cons (dt_call (n := 4) (φ := phi_law_pairs) (fun _ _ h => runF_len h) (ok_law_pairs T) (hr.mono (by decide)) (by rfl) T.g_law_pairs T.F_law_pairs.kp T.b_law_pairs (da_cons (dt_v 7) (da_cons dt_str (da_cons dt_int (da_cons (dt_v 2) da_nil))))) da_nil)))))
      (dss_cons (ds_set (i := 11) nd rfl (by first | exact Or.inl rfl | exact Or.inr rfl) (dt_fz (dt_lst (da_cons (dt_comp (own := [("_law_name", 12), ("_law_pool", 13), ("_law_plan_here", 14)]) rfl nd (di_list (dt_v 2)) (blkOk_by (own := [("_law_name", 12), ("_law_pool", 13), ("_law_plan_here", 14)]) (N := N_law) (sc := defScope s_law) (by decide +kernel)) (fun _ _ _ _ _ => (dg_tup rfl (dgs_cons (dg_name (i := 12) nd rfl (by first | exact Or.inl rfl | exact Or.inr rfl)) (dgs_cons (dg_name (i := 13) nd rfl (by first | exact Or.inl rfl | exact Or.inr rfl)) (dgs_cons (dg_name (i := 14) nd rfl (by first | exact Or.inl rfl | exact Or.inr rfl)) dgs_nil))))) (fun _ _ _ _ _ => dts_nil) (fun _ _ _ _ _ => (dt_tup (da_cons (dt_v 12) (da_cons (dt_v 13) (da_cons (dt_list (by rfl) T.m_list (dv_v 14)) da_nil))))) (by decide)) (da_cons (dt_list (by rfl) T.m_list (dv_v 3)) da_nil)))))
      (dss_cons (ds_set (i := 15) nd rfl (by first | exact Or.inl rfl | exact Or.inr rfl) (dt_call (n := 3) (φ := phi_told_days) (fun _ _ h => runF_len h) (ok_told_days T) (hr.mono (by decide)) (by rfl) T.g_told_days T.F_told_days.kp T.b_told_days (da_cons (DV.dt (dv_ix (dv_v 11) dt_int)) (da_cons (DV.dt (dv_ix (dv_v 11) dt_int)) (da_cons (dt_v 5) da_nil)))))
      (dss_cons (ds_if (DW.dc (dw_or (dc_not (dc_val (dt_callB (n := 2) (φ := (phi_law_alike 8)) (fun _ _ h => runF_len h) (ok_law_alike T 8) (hr.mono (by decide)) (by rfl) T.g_law_alike T.F_law_alike.kp T.b_law_alike (dvs_cons (dv_v 15) (dvs_cons (dv_v 10) dvs_nil))))) (dw_or1 (dc_not (dc_val (dt_callB (n := 2) (φ := phi_law_each) (fun _ _ h => runF_len h) (ok_law_each T) (hr.mono (by decide)) (by rfl) T.g_law_each T.F_law_each.kp T.b_law_each (dvs_cons (dv_v 15) (dvs_cons (dv_v 2) dvs_nil)))))))) (dss_one (ds_ret dt_bl)) dss_nil)
      (dss_cons (ds_appP (dp_ix (dp_name 15) dt_int) dt_int)
      (dss_cons (ds_forUL PassesOwn.never rfl (dt_mv (dp_ix (dp_name 15) dt_int)) (dg_tup rfl (dgs_cons (dg_name (i := 16) nd rfl (by first | exact Or.inl rfl | exact Or.inr rfl)) (dgs_cons (dg_name (i := 17) nd rfl (by first | exact Or.inl rfl | exact Or.inr rfl)) dgs_nil))) (dss_one (ds_app 16 dt_int)))
      (dss_one (ds_ret (dt_and (dt_eq hr.units (dv_v 11) (DT.dv (dt_lst (da_cons (dt_v 2) (da_cons (dt_v 3) da_nil))))) (dt_one (dt_call (n := 2) (φ := (phi_law_alike 8)) (fun _ _ h => runF_len h) (ok_law_alike T 8) (hr.mono (by decide)) (by rfl) T.g_law_alike T.F_law_alike.kp T.b_law_alike (da_cons (dt_fz (dt_call (n := 3) (φ := phi_told_days) (fun _ _ h => runF_len h) (ok_told_days T) (hr.mono (by decide)) (by rfl) T.g_told_days T.F_told_days.kp T.b_told_days (da_cons (DV.dt (dv_ix (dv_v 11) dt_int)) (da_cons (DV.dt (dv_ix (dv_v 11) dt_int)) (da_cons (dt_v 5) da_nil))))) (da_cons (dt_v 10) da_nil)))))))))))))))))))))))⟩
end
theorem all_mk {l : PySem.W.OpenLaw} {w : World} {K : PySem.W.Frag} {h : Heap} {mg : Str → Option Value} {fa : Addr} {f_law_mixed f_law_names f_law_cell f_law_coins f_law_plan f_law_debts f_law_events f_law_amounts f_law_event f_law_walked f_law_sums f_law_pairs f_event_done f_one_day f_told_days f_law_total f_law_each f_law_alike f_law : Addr} (X : K.In h) (G : h.Ns mainGlobals mg) (hfa : mg "law" = some (.ref fa))
    {od1 an1 od2 an2 od3 an3 od4 an4 od5 an5 od6 an6 od7 an7 od8 an8 od9 an9 od10 an10 od11 an11 od12 an12 od13 an13 od14 an14 od15 an15 od16 an16 od17 an17 od18 an18 od19 an19 : Option Addr} {sl1 sl2 sl3 sl4 sl5 sl6 sl7 sl8 sl9 sl10 sl11 sl12 sl13 sl14 sl15 sl16 sl17 sl18 sl19 : Array (Option Value)} {oc1 kV1 dc1 pm1 cd1 ct1 oc2 kV2 dc2 pm2 cd2 ct2 oc3 kV3 dc3 pm3 cd3 ct3 oc4 kV4 dc4 pm4 cd4 ct4 oc5 kV5 dc5 pm5 cd5 ct5 oc6 kV6 dc6 pm6 cd6 ct6 oc7 kV7 dc7 pm7 cd7 ct7 oc8 kV8 dc8 pm8 cd8 ct8 oc9 kV9 dc9 pm9 cd9 ct9 oc10 kV10 dc10 pm10 cd10 ct10 oc11 kV11 dc11 pm11 cd11 ct11 oc12 kV12 dc12 pm12 cd12 ct12 oc13 kV13 dc13 pm13 cd13 ct13 oc14 kV14 dc14 pm14 cd14 ct14 oc15 kV15 dc15 pm15 cd15 ct15 oc16 kV16 dc16 pm16 cd16 ct16 oc17 kV17 dc17 pm17 cd17 ct17 oc18 kV18 dc18 pm18 cd18 ct18 oc19 kV19 dc19 pm19 cd19 ct19 : Value}
    (a1 : PySem.W.nsIn K mainGlobals "_law_mixed" = some (some (.ref f_law_mixed))) (l1 : K.lookup f_law_mixed = some ⟨oc1, od1, .func (PySem.W.fnOf "_law_mixed" "_law_mixed" (defArgs s_law_mixed) (defBody s_law_mixed) (defScope s_law_mixed) .none kV1 dc1 pm1 an1 cd1 ct1), sl1⟩) (c1 : PySem.W.codeIn K cd1 "_law_mixed" = true) (k1 : PySem.W.keepIn K (.ref f_law_mixed) = true)
    (a2 : PySem.W.nsIn K mainGlobals "_law_names" = some (some (.ref f_law_names))) (l2 : K.lookup f_law_names = some ⟨oc2, od2, .func (PySem.W.fnOf "_law_names" "_law_names" (defArgs s_law_names) (defBody s_law_names) (defScope s_law_names) .none kV2 dc2 pm2 an2 cd2 ct2), sl2⟩) (c2 : PySem.W.codeIn K cd2 "_law_names" = true) (k2 : PySem.W.keepIn K (.ref f_law_names) = true)
    (a3 : PySem.W.nsIn K mainGlobals "_law_cell" = some (some (.ref f_law_cell))) (l3 : K.lookup f_law_cell = some ⟨oc3, od3, .func (PySem.W.fnOf "_law_cell" "_law_cell" (defArgs s_law_cell) (defBody s_law_cell) (defScope s_law_cell) .none kV3 dc3 pm3 an3 cd3 ct3), sl3⟩) (c3 : PySem.W.codeIn K cd3 "_law_cell" = true) (k3 : PySem.W.keepIn K (.ref f_law_cell) = true)
    (a4 : PySem.W.nsIn K mainGlobals "_law_coins" = some (some (.ref f_law_coins))) (l4 : K.lookup f_law_coins = some ⟨oc4, od4, .func (PySem.W.fnOf "_law_coins" "_law_coins" (defArgs s_law_coins) (defBody s_law_coins) (defScope s_law_coins) .none kV4 dc4 pm4 an4 cd4 ct4), sl4⟩) (c4 : PySem.W.codeIn K cd4 "_law_coins" = true) (k4 : PySem.W.keepIn K (.ref f_law_coins) = true)
    (a5 : PySem.W.nsIn K mainGlobals "_law_plan" = some (some (.ref f_law_plan))) (l5 : K.lookup f_law_plan = some ⟨oc5, od5, .func (PySem.W.fnOf "_law_plan" "_law_plan" (defArgs s_law_plan) (defBody s_law_plan) (defScope s_law_plan) .none kV5 dc5 pm5 an5 cd5 ct5), sl5⟩) (c5 : PySem.W.codeIn K cd5 "_law_plan" = true) (k5 : PySem.W.keepIn K (.ref f_law_plan) = true)
    (a6 : PySem.W.nsIn K mainGlobals "_law_debts" = some (some (.ref f_law_debts))) (l6 : K.lookup f_law_debts = some ⟨oc6, od6, .func (PySem.W.fnOf "_law_debts" "_law_debts" (defArgs s_law_debts) (defBody s_law_debts) (defScope s_law_debts) .none kV6 dc6 pm6 an6 cd6 ct6), sl6⟩) (c6 : PySem.W.codeIn K cd6 "_law_debts" = true) (k6 : PySem.W.keepIn K (.ref f_law_debts) = true)
    (a7 : PySem.W.nsIn K mainGlobals "_law_events" = some (some (.ref f_law_events))) (l7 : K.lookup f_law_events = some ⟨oc7, od7, .func (PySem.W.fnOf "_law_events" "_law_events" (defArgs s_law_events) (defBody s_law_events) (defScope s_law_events) .none kV7 dc7 pm7 an7 cd7 ct7), sl7⟩) (c7 : PySem.W.codeIn K cd7 "_law_events" = true) (k7 : PySem.W.keepIn K (.ref f_law_events) = true)
    (a8 : PySem.W.nsIn K mainGlobals "_law_amounts" = some (some (.ref f_law_amounts))) (l8 : K.lookup f_law_amounts = some ⟨oc8, od8, .func (PySem.W.fnOf "_law_amounts" "_law_amounts" (defArgs s_law_amounts) (defBody s_law_amounts) (defScope s_law_amounts) .none kV8 dc8 pm8 an8 cd8 ct8), sl8⟩) (c8 : PySem.W.codeIn K cd8 "_law_amounts" = true) (k8 : PySem.W.keepIn K (.ref f_law_amounts) = true)
    (a9 : PySem.W.nsIn K mainGlobals "_law_event" = some (some (.ref f_law_event))) (l9 : K.lookup f_law_event = some ⟨oc9, od9, .func (PySem.W.fnOf "_law_event" "_law_event" (defArgs s_law_event) (defBody s_law_event) (defScope s_law_event) .none kV9 dc9 pm9 an9 cd9 ct9), sl9⟩) (c9 : PySem.W.codeIn K cd9 "_law_event" = true) (k9 : PySem.W.keepIn K (.ref f_law_event) = true)
    (a10 : PySem.W.nsIn K mainGlobals "_law_walked" = some (some (.ref f_law_walked))) (l10 : K.lookup f_law_walked = some ⟨oc10, od10, .func (PySem.W.fnOf "_law_walked" "_law_walked" (defArgs s_law_walked) (defBody s_law_walked) (defScope s_law_walked) .none kV10 dc10 pm10 an10 cd10 ct10), sl10⟩) (c10 : PySem.W.codeIn K cd10 "_law_walked" = true) (k10 : PySem.W.keepIn K (.ref f_law_walked) = true)
    (a11 : PySem.W.nsIn K mainGlobals "_law_sums" = some (some (.ref f_law_sums))) (l11 : K.lookup f_law_sums = some ⟨oc11, od11, .func (PySem.W.fnOf "_law_sums" "_law_sums" (defArgs s_law_sums) (defBody s_law_sums) (defScope s_law_sums) .none kV11 dc11 pm11 an11 cd11 ct11), sl11⟩) (c11 : PySem.W.codeIn K cd11 "_law_sums" = true) (k11 : PySem.W.keepIn K (.ref f_law_sums) = true)
    (a12 : PySem.W.nsIn K mainGlobals "_law_pairs" = some (some (.ref f_law_pairs))) (l12 : K.lookup f_law_pairs = some ⟨oc12, od12, .func (PySem.W.fnOf "_law_pairs" "_law_pairs" (defArgs s_law_pairs) (defBody s_law_pairs) (defScope s_law_pairs) .none kV12 dc12 pm12 an12 cd12 ct12), sl12⟩) (c12 : PySem.W.codeIn K cd12 "_law_pairs" = true) (k12 : PySem.W.keepIn K (.ref f_law_pairs) = true)
    (a13 : PySem.W.nsIn K mainGlobals "event_done" = some (some (.ref f_event_done))) (l13 : K.lookup f_event_done = some ⟨oc13, od13, .func (PySem.W.fnOf "event_done" "event_done" (defArgs s_event_done) (defBody s_event_done) (defScope s_event_done) .none kV13 dc13 pm13 an13 cd13 ct13), sl13⟩) (c13 : PySem.W.codeIn K cd13 "event_done" = true) (k13 : PySem.W.keepIn K (.ref f_event_done) = true)
    (a14 : PySem.W.nsIn K mainGlobals "one_day" = some (some (.ref f_one_day))) (l14 : K.lookup f_one_day = some ⟨oc14, od14, .func (PySem.W.fnOf "one_day" "one_day" (defArgs s_one_day) (defBody s_one_day) (defScope s_one_day) .none kV14 dc14 pm14 an14 cd14 ct14), sl14⟩) (c14 : PySem.W.codeIn K cd14 "one_day" = true) (k14 : PySem.W.keepIn K (.ref f_one_day) = true)
    (a15 : PySem.W.nsIn K mainGlobals "told_days" = some (some (.ref f_told_days))) (l15 : K.lookup f_told_days = some ⟨oc15, od15, .func (PySem.W.fnOf "told_days" "told_days" (defArgs s_told_days) (defBody s_told_days) (defScope s_told_days) .none kV15 dc15 pm15 an15 cd15 ct15), sl15⟩) (c15 : PySem.W.codeIn K cd15 "told_days" = true) (k15 : PySem.W.keepIn K (.ref f_told_days) = true)
    (a16 : PySem.W.nsIn K mainGlobals "_law_total" = some (some (.ref f_law_total))) (l16 : K.lookup f_law_total = some ⟨oc16, od16, .func (PySem.W.fnOf "_law_total" "_law_total" (defArgs s_law_total) (defBody s_law_total) (defScope s_law_total) .none kV16 dc16 pm16 an16 cd16 ct16), sl16⟩) (c16 : PySem.W.codeIn K cd16 "_law_total" = true) (k16 : PySem.W.keepIn K (.ref f_law_total) = true)
    (a17 : PySem.W.nsIn K mainGlobals "_law_each" = some (some (.ref f_law_each))) (l17 : K.lookup f_law_each = some ⟨oc17, od17, .func (PySem.W.fnOf "_law_each" "_law_each" (defArgs s_law_each) (defBody s_law_each) (defScope s_law_each) .none kV17 dc17 pm17 an17 cd17 ct17), sl17⟩) (c17 : PySem.W.codeIn K cd17 "_law_each" = true) (k17 : PySem.W.keepIn K (.ref f_law_each) = true)
    (a18 : PySem.W.nsIn K mainGlobals "_law_alike" = some (some (.ref f_law_alike))) (l18 : K.lookup f_law_alike = some ⟨oc18, od18, .func (PySem.W.fnOf "_law_alike" "_law_alike" (defArgs s_law_alike) (defBody s_law_alike) (defScope s_law_alike) .none kV18 dc18 pm18 an18 cd18 ct18), sl18⟩) (c18 : PySem.W.codeIn K cd18 "_law_alike" = true) (k18 : PySem.W.keepIn K (.ref f_law_alike) = true)
    (a19 : PySem.W.nsIn K mainGlobals "law" = some (some (.ref f_law))) (l19 : K.lookup f_law = some ⟨oc19, od19, .func (PySem.W.fnOf "law" "law" (defArgs s_law) (defBody s_law) (defScope s_law) .none kV19 dc19 pm19 an19 cd19 ct19), sl19⟩) (c19 : PySem.W.codeIn K cd19 "law" = true) (k19 : PySem.W.keepIn K (.ref f_law) = true)
    (z1 : PySem.W.nsIn K mainGlobals "list" = some none)
    (z2 : PySem.W.nsIn K mainGlobals "sum" = some none)
    (z3 : PySem.W.nsIn K mainGlobals "dict" = some none)
    (z4 : PySem.W.nsIn K mainGlobals "range" = some none)
    (z5 : PySem.W.nsIn K mainGlobals "len" = some none)
    (z6 : PySem.W.nsIn K mainGlobals "isinstance" = some none)
    (z7 : PySem.W.nsIn K mainGlobals "bool" = some none)
    (z8 : PySem.W.nsIn K mainGlobals "int" = some none)
    (z9 : PySem.W.nsIn K mainGlobals "str" = some none)
    (z10 : PySem.W.nsIn K mainGlobals "tuple" = some none)
    (z11 : PySem.W.nsIn K mainGlobals "enumerate" = some none)
    : ∃ fd : FuncData, (∀ (s : Shared) (v : Value), BindsTo s fd ⟨[v], []⟩ [("_law_script", v)]) ∧ ∀ (K' : PySem.W.Frag) (base : Heap), Less K K' → FnOk l.prog w K' mg base CX0 10 fa fd ["_law_script"] (spD 1 phi_law ⟨K', l.prog, w⟩) := by
  have e := hfa.symm.trans (PySem.W.mg_of X G a19)
  cases e
  have E1 := fun_mk (st := s_law_mixed) l1 c1 k1
  have E2 := fun_mk (st := s_law_names) l2 c2 k2
  have E3 := fun_mk (st := s_law_cell) l3 c3 k3
  have E4 := fun_mk (st := s_law_coins) l4 c4 k4
  have E5 := fun_mk (st := s_law_plan) l5 c5 k5
  have E6 := fun_mk (st := s_law_debts) l6 c6 k6
  have E7 := fun_mk (st := s_law_events) l7 c7 k7
  have E8 := fun_mk (st := s_law_amounts) l8 c8 k8
  have E9 := fun_mk (st := s_law_event) l9 c9 k9
  have E10 := fun_mk (st := s_law_walked) l10 c10 k10
  have E11 := fun_mk (st := s_law_sums) l11 c11 k11
  have E12 := fun_mk (st := s_law_pairs) l12 c12 k12
  have E13 := fun_mk (st := s_event_done) l13 c13 k13
  have E14 := fun_mk (st := s_one_day) l14 c14 k14
  have E15 := fun_mk (st := s_told_days) l15 c15 k15
  have E16 := fun_mk (st := s_law_total) l16 c16 k16
  have E17 := fun_mk (st := s_law_each) l17 c17 k17
  have E18 := fun_mk (st := s_law_alike) l18 c18 k18
  have E19 := fun_mk (st := s_law) l19 c19 k19
  refine ⟨PySem.W.fnOf "law" "law" (defArgs s_law) (defBody s_law) (defScope s_law) .none kV19 dc19 pm19 an19 cd19 ct19, fun s v => .of_eq rfl, fun K' base Ls => ?_⟩
  have F1 := Ls.fun E1
  have F2 := Ls.fun E2
  have F3 := Ls.fun E3
  have F4 := Ls.fun E4
  have F5 := Ls.fun E5
  have F6 := Ls.fun E6
  have F7 := Ls.fun E7
  have F8 := Ls.fun E8
  have F9 := Ls.fun E9
  have F10 := Ls.fun E10
  have F11 := Ls.fun E11
  have F12 := Ls.fun E12
  have F13 := Ls.fun E13
  have F14 := Ls.fun E14
  have F15 := Ls.fun E15
  have F16 := Ls.fun E16
  have F17 := Ls.fun E17
  have F18 := Ls.fun E18
  have F19 := Ls.fun E19
  have T : Txt ⟨K', l.prog, w⟩ mg _ _ _ _ _ _ _ _ _ _ _ _ _ _ _ _ _ _ _ _ _ _ _ _ _ _ _ _ _ _ _ _ _ _ _ _ _ _ := ⟨F1, F1.binds (ps := ["_law_cell_here", "_law_k"]) (fun _ _ _ _ _ _ us hl => match us, hl with | [_, _], _ => rfl), PySem.W.mg_of X G a1,
    F2, F2.binds (ps := ["_law_cell_here", "_law_many"]) (fun _ _ _ _ _ _ us hl => match us, hl with | [_, _], _ => rfl), PySem.W.mg_of X G a2,
    F3, F3.binds (ps := ["_law_script", "_law_k"]) (fun _ _ _ _ _ _ us hl => match us, hl with | [_, _], _ => rfl), PySem.W.mg_of X G a3,
    F4, F4.binds (ps := ["_law_cell_here", "_law_way", "_law_most"]) (fun _ _ _ _ _ _ us hl => match us, hl with | [_, _, _], _ => rfl), PySem.W.mg_of X G a4,
    F5, F5.binds (ps := ["_law_cell_here", "_law_k"]) (fun _ _ _ _ _ _ us hl => match us, hl with | [_, _], _ => rfl), PySem.W.mg_of X G a5,
    F6, F6.binds (ps := ["_law_cells", "_law_names_here", "_law_pools"]) (fun _ _ _ _ _ _ us hl => match us, hl with | [_, _, _], _ => rfl), PySem.W.mg_of X G a6,
    F7, F7.binds (ps := ["_law_cells", "_law_debts_here"]) (fun _ _ _ _ _ _ us hl => match us, hl with | [_, _], _ => rfl), PySem.W.mg_of X G a7,
    F8, F8.binds (ps := ["_law_debts_here"]) (fun _ _ _ _ _ _ us hl => match us, hl with | [_], _ => rfl), PySem.W.mg_of X G a8,
    F9, F9.binds (ps := ["_law_amounts_here", "_law_event_here"]) (fun _ _ _ _ _ _ us hl => match us, hl with | [_, _], _ => rfl), PySem.W.mg_of X G a9,
    F10, F10.binds (ps := ["_law_amounts_here", "_law_events_here", "_law_many"]) (fun _ _ _ _ _ _ us hl => match us, hl with | [_, _, _], _ => rfl), PySem.W.mg_of X G a10,
    F11, F11.binds (ps := ["_law_amounts_here"]) (fun _ _ _ _ _ _ us hl => match us, hl with | [_], _ => rfl), PySem.W.mg_of X G a11,
    F12, F12.binds (ps := ["_law_sums_here", "_law_fate", "_law_day", "_law_debts_here"]) (fun _ _ _ _ _ _ us hl => match us, hl with | [_, _, _, _], _ => rfl), PySem.W.mg_of X G a12,
    F13, F13.binds (ps := ["plans", "event"]) (fun _ _ _ _ _ _ us hl => match us, hl with | [_, _], _ => rfl), PySem.W.mg_of X G a13,
    F14, F14.binds (ps := ["plans", "events", "day"]) (fun _ _ _ _ _ _ us hl => match us, hl with | [_, _, _], _ => rfl), PySem.W.mg_of X G a14,
    F15, F15.binds (ps := ["debts", "events", "many"]) (fun _ _ _ _ _ _ us hl => match us, hl with | [_, _, _], _ => rfl), PySem.W.mg_of X G a15,
    F16, F16.binds (ps := ["_law_pairs_here", "_law_name"]) (fun _ _ _ _ _ _ us hl => match us, hl with | [_, _], _ => rfl), PySem.W.mg_of X G a16,
    F17, F17.binds (ps := ["_law_found", "_law_debts_here"]) (fun _ _ _ _ _ _ us hl => match us, hl with | [_, _], _ => rfl), PySem.W.mg_of X G a17,
    F18, F18.binds (ps := ["_law_found", "_law_due"]) (fun _ _ _ _ _ _ us hl => match us, hl with | [_, _], _ => rfl), PySem.W.mg_of X G a18,
    F19, F19.binds (ps := ["_law_script"]) (fun _ _ _ _ _ _ us hl => match us, hl with | [_], _ => rfl), PySem.W.mg_of X G a19,
    PySem.W.mg_none_of X G z1,
    PySem.W.mg_none_of X G z2,
    PySem.W.mg_none_of X G z3,
    PySem.W.mg_none_of X G z4,
    PySem.W.mg_none_of X G z5,
    PySem.W.mg_none_of X G z6,
    PySem.W.mg_none_of X G z7,
    PySem.W.mg_none_of X G z8,
    PySem.W.mg_none_of X G z9,
    PySem.W.mg_none_of X G z10,
    PySem.W.mg_none_of X G z11⟩
  exact ok_law T
end K15
namespace LW
open PySem PySem.Spec PyProof.Rows L2 DL
def F_law_mixed : SF :=
  (sSeq (sSet 2 (eOp gMod (eOp gAdd (eOp gMul (eOp gMod (eV 0) (eC (.int 2147483647))) (eC (.int 48271))) (eOp gMul (eOp gAdd (eOp gAdd (eOp gMul (eV 1) (eV 1)) (eOp gMul (eC (.int 3)) (eV 1))) (eC (.int 7))) (eC (.int 69621)))) (eC (.int 2147483647))))
  (sRet (eOp gMod (eOp gMul (eV 2) (eV 2)) (eC (.int 2147483647)))))
def phi_law_mixed : List D → Option T := runF 3 2 F_law_mixed
def B_law_names_1 : SF :=
  (sSeq (sSet 9 (eComp [10] (iR1 (aC (eV 6) aN)) (gNm 10) cYes (eV 3)))
  (sSeq (sPut 9 (eV 7) (eW (eIx (eB 4) (eOp gMod (eOp gAdd (eOp gDiv (eV 2) (eC (.int 4200))) (eOp gMul (eC (.int 3)) (eV 5))) (eC (.int 20))))))
  (sSeq (sPut 9 (eOp gMod (eOp gAdd (eV 7) (eC (.int 1))) (eV 6)) (eW (eIx (eB 4) (eOp gMod (eOp gAdd (eOp gDiv (eV 2) (eC (.int 84000))) (eOp gDiv (eV 5) (eC (.int 20)))) (eC (.int 20))))))
  (sApp 8 (eJoin (eC (.str (PySem.Str.ofString ""))) (eB 9))))))
def F_law_names : SF :=
  (sSeq (sSet 2 (eCall phi_law_mixed (aC (eV 0) (aC (eC (.int 3)) aN))))
  (sSeq (sSet 3 (eW (eIx (eC (.str (PySem.Str.ofString "abcdefghijklmnpqrstuvwxyz"))) (eOp gMod (eV 2) (eC (.int 25))))))
  (sSeq (sSet 4 (eC (.str (PySem.Str.ofString "bcdfghjklmnpqrstvwxz"))))
  (sSeq (sIf (cAnd (cT (eCmp eqQ (eOp gMod (eOp gDiv (eV 2) (eC (.int 25))) (eC (.int 3))) (eC (.int 0)))) (cT (eCmp cLt (eB 1) (eC (.int 9))))) (sRet (eComp [5] (iR1 (aC (eV 1) aN)) (gNm 5) cYes (eOp gMulA (eV 3) (eOp gSub (eV 1) (eV 5))))) sNx)
  (sSeq (sSet 6 (eOp gAdd (eC (.int 2)) (eOp gMod (eOp gDiv (eV 2) (eC (.int 75))) (eC (.int 7)))))
  (sSeq (sSet 7 (eOp gMod (eOp gDiv (eV 2) (eC (.int 525))) (eV 6)))
  (sSeq (sSet 8 (eL aN))
  (sSeq (sFor (iR1 (aC (eV 1) aN)) (gNm 5) B_law_names_1)
  (sRet (eM 8))))))))))
def phi_law_names : List D → Option T := runF 11 2 F_law_names
def F_law_coins : SF :=
  (sSeq (sIf (cT (eCmp eqQ (eOp gMod (eV 1) (eC (.int 5))) (eC (.int 0)))) (sRet (eC (.int 1))) sNx)
  (sSeq (sIf (cT (eCmp eqQ (eOp gMod (eV 1) (eC (.int 5))) (eC (.int 1)))) (sRet (eM 2)) sNx)
  (sSeq (sIf (cT (eCmp eqQ (eOp gMod (eV 1) (eC (.int 5))) (eC (.int 2)))) (sRet (eOp gAdd (eC (.int 1)) (eOp gMod (eV 0) (eC (.int 7))))) sNx)
  (sSeq (sIf (cT (eCmp eqQ (eOp gMod (eV 1) (eC (.int 5))) (eC (.int 3)))) (sRet (eOp gAdd (eC (.int 1)) (eOp gMod (eV 0) (eV 2)))) sNx)
  (sRet (eOp gAdd (eC (.int 1)) (eOp gMod (eOp gMul (eOp gMul (eOp gAdd (eOp gMod (eV 0) (eV 2)) (eC (.int 1))) (eOp gAdd (eV 1) (eC (.int 48271)))) (eC (.int 99999999999999997))) (eV 2))))))))
def phi_law_coins : List D → Option T := runF 3 3 F_law_coins
def B_law_alike_1 (φ : List D → Option T) : SF :=
  (sIf (cNot (cT (eCall φ (aC (eW (eIx (eB 0) (eV 2))) (aC (eW (eIx (eB 1) (eV 2))) aN))))) (sRet (eC (.bl false))) sNx)
def F_law_alike (φ : List D → Option T) : SF :=
  (sSeq (sIf (cT (eCmp isN (eB 1) (eC .non))) (sRet (eCmp isN (eB 0) (eC .non))) sNx)
  (sSeq (sIf (cT (eIsi "bool" (eB 1))) (sRet (eAnd (eIsi "bool" (eB 0)) (eCmp eqQ (eB 0) (eB 1)))) sNx)
  (sSeq (sIf (cT (eIsi "int" (eB 1))) (sRet (eAnd (eIsi "int" (eB 0)) (eAnd (eNot (eIsi "bool" (eB 0))) (eCmp eqQ (eB 0) (eB 1))))) sNx)
  (sSeq (sIf (cT (eIsi "str" (eB 1))) (sRet (eAnd (eIsi "str" (eB 0)) (eCmp eqQ (eB 0) (eB 1)))) sNx)
  (sSeq (sIf (cAnd (cT (eIsi "tuple" (eB 1))) (cNot (cT (eIsi "tuple" (eB 0))))) (sRet (eC (.bl false))) sNx)
  (sSeq (sIf (cAnd (cT (eIsi "list" (eB 1))) (cNot (cT (eIsi "list" (eB 0))))) (sRet (eC (.bl false))) sNx)
  (sSeq (sIf (cT (eCmp neQ (eB1 gLen (eB 0)) (eB1 gLen (eB 1)))) (sRet (eC (.bl false))) sNx)
  (sSeq (sFor (iR1 (aC (eB1 gLen (eB 1)) aN)) (gNm 2) (B_law_alike_1 φ))
  (sRet (eC (.bl true)))))))))))
def phi_law_alike : Nat → List D → Option T
  | 0 => fun _ => none
  | n + 1 => runF 3 2 (F_law_alike (phi_law_alike n))
end LW
set_option maxHeartbeats 2000000
namespace LW
open PySem PySem.Spec PyProof.Rows L2 DL
def ks : List Str := Txt.split (sg (cod "pool claim pot eat order part pay share repay fill lend back rest look guard debt on late early quit")) (sg (cod " "))
def val (w : List Nat) : Nat := PySem.NumText.digitsVal w
def toks (l : List Nat) : List (List Nat) := (TL.spl [32] 0 [] l).filter fun w => !decide (w = [])
end LW
namespace LW
open PySem PySem.Spec PyProof.Rows L2 DL
mutual
def aOk : Nat → D → Bool
  | _, .non => true
  | _, .bl _ => true
  | _, .int _ => true
  | _, .str _ => true
  | 0, .lst _ => false
  | n + 1, .lst ds => decide (ds.length ≤ 1000000) && aOks n ds
  | 0, .tup _ => false
  | n + 1, .tup ds => decide (ds.length ≤ 1000000) && aOks n ds
  | _, .dic _ => false
  | _, .dit _ => false
  | _, .obj _ _ => false
  | _, .al _ => false
  | _, .tux _ => false
  | _, .din _ => false
def aOks : Nat → List D → Bool
  | _, [] => true
  | n, d :: ds => aOk n d && aOks n ds
end
theorem aOks_all {n : Nat} : ∀ {ds : List D}, aOks n ds = true ↔ ∀ d ∈ ds, aOk n d = true
  | [] => by unfold aOks; simp
  | d :: ds => by unfold aOks; simp [aOks_all (ds := ds)]
theorem alike_loop {φ : List D → Option T} {a0 a1 : T} {ds : List D} (h0 : ∀ k : Nat, ∀ d, ds[k]? = some d → ixT a0 k = some (.p d)) (h1 : ∀ k : Nat, ∀ d, ds[k]? = some d → ixT a1 k = some (.p d)) (hφ : ∀ d ∈ ds, φ [d, d] = some (.p (.bl true))) :
    ∀ (n lo : Nat) (a2 : Option T), lo + n ≤ ds.length → ∃ b2, loopD (gNm 2) (B_law_alike_1 φ) (rngD lo n) [some a0, some a1, a2] = some (.nx, [some a0, some a1, b2])
  | 0, lo, a2, _ => ⟨a2, rfl⟩
  | n + 1, lo, a2, h => by
    obtain ⟨b2, ih⟩ := alike_loop h0 h1 hφ n (lo + 1) (some (.p (.int lo))) (by omega)
    refine ⟨b2, ?_⟩
    have hlt : lo < ds.length := by omega
    have e := List.getElem?_eq_getElem hlt
    have x0 := h0 lo _ e
    have x1 := h1 lo _ e
    have hp := hφ _ (List.getElem_mem hlt)
    have hb : B_law_alike_1 φ [some a0, some a1, some (.p (.int lo))] = some (.nx, [some a0, some a1, some (.p (.int lo))]) := by
      unfold B_law_alike_1
      simp (disch := omega) only [x0, x1, hp, ↓reduceIte, and_self, bindS, mapS, eV_q, kV_p, kV_l, kV_t, eM_q, kM_s, eB_q, kB_s, eC_q, eW_q, kW_p, aN_q, aC_q, kAC_q, kCons_q, aMv_q, kMv_s, kMv2_q, kMv3_s, eL_q, kL_q, eT_q, kT_q, kP_q, kBl_q, kT2_q, eFz_q, kFz_q, eOp_q, kOp1_q, kOp2_q, eCmp_q, kCm1_q, kCm2_q, eNeg_q, kNeg_q, eChain_q, kCh1_q, kCh2_q, kCh3_q, cT_q, kcT_q, cNot_q, kNot_q, cAnd_q, kcAnd_t, kcAnd_f, cOr_q, kcOr_t, kcOr_f, eIf_q, keIf_t, keIf_f, eAnd_q, keAnd_t, keAnd_f, eOr_q, keOr_t, keOr_f, eNot_q, keNot_q, sIf_q, kcIf_t, kcIf_f, eB1_q, kB1_q, eI2_q, kI2_q, eIsi_q, kIsi_q, kLst_q, eList_q, kList_q, kTpl_q, eTuple_q, kTuple_q, eCall_q, kCall_q, kCall2_q, eCallB_q, kCallB_q, kCl_q, allP_n, allP_c, eIx_q, kIx1_q, kIx2_q, oN_q, oS_q, koS_q, eSl_q, kSl1_q, kSl2_q, kSl3_q, cutT_p, cutT_l, sNx_q, sBk_q, sCt_q, sRetN_q, sSeq_q, kSeq_n, kSeq_r, kSeq_b, kSeq_c, sRet_q, kRet_q, sSet_q, kSet_q, sDrop_q, kDrop_q, gNm_q, gEnd_q, gAnd_q, gTp_q, kTp_q, partsT_p, partsT_t, kNx_q, sAsg_q, kAsg_q, sFor_q, kFor_q, loop_n, loop_c, kLp1_q, kLp2_n, kLp2_c, kLp2_b, kLp2_r, iL_q, kiL_q, iTp_q, kiTp_q, iSg_q, kiSg_q, iR1_q, kR1_q, iR2_q, kR2_q, iEn_q, kEn_q, iZp_q, kZp_q, kZp_t, sForV_q, kForV_q, kForV1_q, kForV2_n, kForV2_r, atL_q, kAtL_q, sApp_q, kApp_q, kApp1_q, kApp2_q, sPut_q, kPut_q, kPut1_q, kPut2_q, kPut3_q, kPut4_q, kPutEnd_q, asI_q, sAugIx_q, kAx_q, kAx0_q, kAx1_q, kAx2_q, kAx3_q, kAx4_q, kAx5_q, kAx6_q, kAx7_q, kAx8_q, sAug_q, kAug_q, kAug2_q, kAug3_q, comp_n, comp_c, kCp1_q, kCp2_t, kCp2_f, kCp3_q, kCp4_q, eComp_q, kComp_q, kLs_q, cYes_q, wipe_n, wipe_c, eM1_q, kM11_q, kM12_q, eSplit_q, kSp1_q, kSp2_q, eJoin_q, kJn1_q, kJn2_q, kJn3_q, kJn4_q, eCat_q, kCt0_q, kCt1_q, kCt2_q, kCt3_pl, kCt3_ll, kCt3_lp, kCt3_pp, itemsT_p, itemsT_t, itemsT_ll, isLT_p, isLT_l, eDn_q, eDix_q, kDx1_q, kDx2_q, kDx3_q, kDx4_q, eDget_q, kDg1_q, kDg2_q, kDg3_q, kDg4_q, kDg5_q, eDin_q, kDi1_q, kDi2_q, kDi3_q, kDi4_t, kDi4_f, sPutD_q, kPd1_q, kPd2_q, kPd3_q, kPd4_q, kPd5_q, atD_q, kAtD_q, dicT_p, dicT_o, keyT_i, keyT_s, toD_d, kV_d, sForM_q, kForM_q, loopT_n, loopT_c, kLt1_q, kLt2_n, kLt2_r, eM0_q, kM0_q, iR3_q, runF_q, kRun_r, kRun_n, cutT_s, gStarts, gFind, startE, T.toDs, T.toD, cleanT, tyD, tyOk, List.length_cons, List.length_nil, List.length_map, List.map_cons, List.map_nil, List.replicate, List.cons_append, List.nil_append, List.getElem?_cons_zero, List.getElem?_cons_succ, List.set_cons_zero, List.set_cons_succ, Nat.reduceAdd, Nat.reduceSub, Nat.reduceLT, Nat.reduceLeDiff, Nat.zero_add, gAdd_i, gAdd_g, gSub_i, gAddI_i, gMul_l, gMul_r, gDiv_i, gMod_i, gPow_i, gMulA_g, cLt_i, cLe_i, cGt_i, cGe_i, eqQ_i, neQ_i, eqQ_g, neQ_g, eqQ_ints, neQ_ints, eqQ_b, neQ_b, inQ_g, notInQ_g, gLen_g, gStr_i, gStr_s, gSum_p, gSum_l, gLen_p, gLen_l, toD_l, toDs_p, allP_map, ixT_lst, ixT_pl, ixT_pt, ixT_sg, signsD_g, atI_0, atI_1, atI_2, atI_3, atI_4, atI_5, atI_6, ofS, sg_len, ifLe, ifLt, rng_len, decide_true, decide_false, Bool.false_eq_true, Bool.not_true, Bool.not_false, Int.reduceLT, Int.reduceLE, Int.reduceEq, kit_ii, kit_ib, kit_ll, kit_bb, kit_bi, kit_ss, kit_tt, kit_tl, kit_lt, kit_ls, kit_li, kit_lb, kit_is, kit_si, kit_sb, kit_ti, kit_tb, kit_ts]
    rw [rngD_cons, loop_c]
    show (some _).bind _ = _
    rw [bindS, kLp1_q]
    show (B_law_alike_1 φ [some a0, some a1, some (.p (.int lo))]).bind _ = _
    rw [hb, bindS, kLp2_n, show ((lo : Nat) : Int) + 1 = ((lo + 1 : Nat) : Int) by omega]
    exact ih
theorem alike_refl : ∀ (n : Nat) (d : D), aOk n d = true → phi_law_alike (n + 1) [d, d] = some (.p (.bl true))
  | n, .non, _ => rfl
  | n, .bl b, _ => by
    have h1 : isN (.bl b) .non = some false := rfl
    show runF 3 2 (F_law_alike (phi_law_alike n)) _ = _
    unfold F_law_alike
    simp (disch := omega) only [h1, ↓reduceIte, and_self, bindS, mapS, eV_q, kV_p, kV_l, kV_t, eM_q, kM_s, eB_q, kB_s, eC_q, eW_q, kW_p, aN_q, aC_q, kAC_q, kCons_q, aMv_q, kMv_s, kMv2_q, kMv3_s, eL_q, kL_q, eT_q, kT_q, kP_q, kBl_q, kT2_q, eFz_q, kFz_q, eOp_q, kOp1_q, kOp2_q, eCmp_q, kCm1_q, kCm2_q, eNeg_q, kNeg_q, eChain_q, kCh1_q, kCh2_q, kCh3_q, cT_q, kcT_q, cNot_q, kNot_q, cAnd_q, kcAnd_t, kcAnd_f, cOr_q, kcOr_t, kcOr_f, eIf_q, keIf_t, keIf_f, eAnd_q, keAnd_t, keAnd_f, eOr_q, keOr_t, keOr_f, eNot_q, keNot_q, sIf_q, kcIf_t, kcIf_f, eB1_q, kB1_q, eI2_q, kI2_q, eIsi_q, kIsi_q, kLst_q, eList_q, kList_q, kTpl_q, eTuple_q, kTuple_q, eCall_q, kCall_q, kCall2_q, eCallB_q, kCallB_q, kCl_q, allP_n, allP_c, eIx_q, kIx1_q, kIx2_q, oN_q, oS_q, koS_q, eSl_q, kSl1_q, kSl2_q, kSl3_q, cutT_p, cutT_l, sNx_q, sBk_q, sCt_q, sRetN_q, sSeq_q, kSeq_n, kSeq_r, kSeq_b, kSeq_c, sRet_q, kRet_q, sSet_q, kSet_q, sDrop_q, kDrop_q, gNm_q, gEnd_q, gAnd_q, gTp_q, kTp_q, partsT_p, partsT_t, kNx_q, sAsg_q, kAsg_q, sFor_q, kFor_q, loop_n, loop_c, kLp1_q, kLp2_n, kLp2_c, kLp2_b, kLp2_r, iL_q, kiL_q, iTp_q, kiTp_q, iSg_q, kiSg_q, iR1_q, kR1_q, iR2_q, kR2_q, iEn_q, kEn_q, iZp_q, kZp_q, kZp_t, sForV_q, kForV_q, kForV1_q, kForV2_n, kForV2_r, atL_q, kAtL_q, sApp_q, kApp_q, kApp1_q, kApp2_q, sPut_q, kPut_q, kPut1_q, kPut2_q, kPut3_q, kPut4_q, kPutEnd_q, asI_q, sAugIx_q, kAx_q, kAx0_q, kAx1_q, kAx2_q, kAx3_q, kAx4_q, kAx5_q, kAx6_q, kAx7_q, kAx8_q, sAug_q, kAug_q, kAug2_q, kAug3_q, comp_n, comp_c, kCp1_q, kCp2_t, kCp2_f, kCp3_q, kCp4_q, eComp_q, kComp_q, kLs_q, cYes_q, wipe_n, wipe_c, eM1_q, kM11_q, kM12_q, eSplit_q, kSp1_q, kSp2_q, eJoin_q, kJn1_q, kJn2_q, kJn3_q, kJn4_q, eCat_q, kCt0_q, kCt1_q, kCt2_q, kCt3_pl, kCt3_ll, kCt3_lp, kCt3_pp, itemsT_p, itemsT_t, itemsT_ll, isLT_p, isLT_l, eDn_q, eDix_q, kDx1_q, kDx2_q, kDx3_q, kDx4_q, eDget_q, kDg1_q, kDg2_q, kDg3_q, kDg4_q, kDg5_q, eDin_q, kDi1_q, kDi2_q, kDi3_q, kDi4_t, kDi4_f, sPutD_q, kPd1_q, kPd2_q, kPd3_q, kPd4_q, kPd5_q, atD_q, kAtD_q, dicT_p, dicT_o, keyT_i, keyT_s, toD_d, kV_d, sForM_q, kForM_q, loopT_n, loopT_c, kLt1_q, kLt2_n, kLt2_r, eM0_q, kM0_q, iR3_q, runF_q, kRun_r, kRun_n, cutT_s, gStarts, gFind, startE, T.toDs, T.toD, cleanT, tyD, tyOk, List.length_cons, List.length_nil, List.length_map, List.map_cons, List.map_nil, List.replicate, List.cons_append, List.nil_append, List.getElem?_cons_zero, List.getElem?_cons_succ, List.set_cons_zero, List.set_cons_succ, Nat.reduceAdd, Nat.reduceSub, Nat.reduceLT, Nat.reduceLeDiff, Nat.zero_add, gAdd_i, gAdd_g, gSub_i, gAddI_i, gMul_l, gMul_r, gDiv_i, gMod_i, gPow_i, gMulA_g, cLt_i, cLe_i, cGt_i, cGe_i, eqQ_i, neQ_i, eqQ_g, neQ_g, eqQ_ints, neQ_ints, eqQ_b, neQ_b, inQ_g, notInQ_g, gLen_g, gStr_i, gStr_s, gSum_p, gSum_l, gLen_p, gLen_l, toD_l, toDs_p, allP_map, ixT_lst, ixT_pl, ixT_pt, ixT_sg, signsD_g, atI_0, atI_1, atI_2, atI_3, atI_4, atI_5, atI_6, ofS, sg_len, ifLe, ifLt, rng_len, decide_true, decide_false, Bool.false_eq_true, Bool.not_true, Bool.not_false, Int.reduceLT, Int.reduceLE, Int.reduceEq, kit_ii, kit_ib, kit_ll, kit_bb, kit_bi, kit_ss, kit_tt, kit_tl, kit_lt, kit_ls, kit_li, kit_lb, kit_is, kit_si, kit_sb, kit_ti, kit_tb, kit_ts]
  | n, .int b, _ => by
    have h1 : isN (.int b) .non = some false := rfl
    show runF 3 2 (F_law_alike (phi_law_alike n)) _ = _
    unfold F_law_alike
    simp (disch := omega) only [h1, ↓reduceIte, and_self, bindS, mapS, eV_q, kV_p, kV_l, kV_t, eM_q, kM_s, eB_q, kB_s, eC_q, eW_q, kW_p, aN_q, aC_q, kAC_q, kCons_q, aMv_q, kMv_s, kMv2_q, kMv3_s, eL_q, kL_q, eT_q, kT_q, kP_q, kBl_q, kT2_q, eFz_q, kFz_q, eOp_q, kOp1_q, kOp2_q, eCmp_q, kCm1_q, kCm2_q, eNeg_q, kNeg_q, eChain_q, kCh1_q, kCh2_q, kCh3_q, cT_q, kcT_q, cNot_q, kNot_q, cAnd_q, kcAnd_t, kcAnd_f, cOr_q, kcOr_t, kcOr_f, eIf_q, keIf_t, keIf_f, eAnd_q, keAnd_t, keAnd_f, eOr_q, keOr_t, keOr_f, eNot_q, keNot_q, sIf_q, kcIf_t, kcIf_f, eB1_q, kB1_q, eI2_q, kI2_q, eIsi_q, kIsi_q, kLst_q, eList_q, kList_q, kTpl_q, eTuple_q, kTuple_q, eCall_q, kCall_q, kCall2_q, eCallB_q, kCallB_q, kCl_q, allP_n, allP_c, eIx_q, kIx1_q, kIx2_q, oN_q, oS_q, koS_q, eSl_q, kSl1_q, kSl2_q, kSl3_q, cutT_p, cutT_l, sNx_q, sBk_q, sCt_q, sRetN_q, sSeq_q, kSeq_n, kSeq_r, kSeq_b, kSeq_c, sRet_q, kRet_q, sSet_q, kSet_q, sDrop_q, kDrop_q, gNm_q, gEnd_q, gAnd_q, gTp_q, kTp_q, partsT_p, partsT_t, kNx_q, sAsg_q, kAsg_q, sFor_q, kFor_q, loop_n, loop_c, kLp1_q, kLp2_n, kLp2_c, kLp2_b, kLp2_r, iL_q, kiL_q, iTp_q, kiTp_q, iSg_q, kiSg_q, iR1_q, kR1_q, iR2_q, kR2_q, iEn_q, kEn_q, iZp_q, kZp_q, kZp_t, sForV_q, kForV_q, kForV1_q, kForV2_n, kForV2_r, atL_q, kAtL_q, sApp_q, kApp_q, kApp1_q, kApp2_q, sPut_q, kPut_q, kPut1_q, kPut2_q, kPut3_q, kPut4_q, kPutEnd_q, asI_q, sAugIx_q, kAx_q, kAx0_q, kAx1_q, kAx2_q, kAx3_q, kAx4_q, kAx5_q, kAx6_q, kAx7_q, kAx8_q, sAug_q, kAug_q, kAug2_q, kAug3_q, comp_n, comp_c, kCp1_q, kCp2_t, kCp2_f, kCp3_q, kCp4_q, eComp_q, kComp_q, kLs_q, cYes_q, wipe_n, wipe_c, eM1_q, kM11_q, kM12_q, eSplit_q, kSp1_q, kSp2_q, eJoin_q, kJn1_q, kJn2_q, kJn3_q, kJn4_q, eCat_q, kCt0_q, kCt1_q, kCt2_q, kCt3_pl, kCt3_ll, kCt3_lp, kCt3_pp, itemsT_p, itemsT_t, itemsT_ll, isLT_p, isLT_l, eDn_q, eDix_q, kDx1_q, kDx2_q, kDx3_q, kDx4_q, eDget_q, kDg1_q, kDg2_q, kDg3_q, kDg4_q, kDg5_q, eDin_q, kDi1_q, kDi2_q, kDi3_q, kDi4_t, kDi4_f, sPutD_q, kPd1_q, kPd2_q, kPd3_q, kPd4_q, kPd5_q, atD_q, kAtD_q, dicT_p, dicT_o, keyT_i, keyT_s, toD_d, kV_d, sForM_q, kForM_q, loopT_n, loopT_c, kLt1_q, kLt2_n, kLt2_r, eM0_q, kM0_q, iR3_q, runF_q, kRun_r, kRun_n, cutT_s, gStarts, gFind, startE, T.toDs, T.toD, cleanT, tyD, tyOk, List.length_cons, List.length_nil, List.length_map, List.map_cons, List.map_nil, List.replicate, List.cons_append, List.nil_append, List.getElem?_cons_zero, List.getElem?_cons_succ, List.set_cons_zero, List.set_cons_succ, Nat.reduceAdd, Nat.reduceSub, Nat.reduceLT, Nat.reduceLeDiff, Nat.zero_add, gAdd_i, gAdd_g, gSub_i, gAddI_i, gMul_l, gMul_r, gDiv_i, gMod_i, gPow_i, gMulA_g, cLt_i, cLe_i, cGt_i, cGe_i, eqQ_i, neQ_i, eqQ_g, neQ_g, eqQ_ints, neQ_ints, eqQ_b, neQ_b, inQ_g, notInQ_g, gLen_g, gStr_i, gStr_s, gSum_p, gSum_l, gLen_p, gLen_l, toD_l, toDs_p, allP_map, ixT_lst, ixT_pl, ixT_pt, ixT_sg, signsD_g, atI_0, atI_1, atI_2, atI_3, atI_4, atI_5, atI_6, ofS, sg_len, ifLe, ifLt, rng_len, decide_true, decide_false, Bool.false_eq_true, Bool.not_true, Bool.not_false, Int.reduceLT, Int.reduceLE, Int.reduceEq, kit_ii, kit_ib, kit_ll, kit_bb, kit_bi, kit_ss, kit_tt, kit_tl, kit_lt, kit_ls, kit_li, kit_lb, kit_is, kit_si, kit_sb, kit_ti, kit_tb, kit_ts]
  | n, .str b, _ => by
    have h1 : isN (.str b) .non = some false := rfl
    show runF 3 2 (F_law_alike (phi_law_alike n)) _ = _
    unfold F_law_alike
    simp (disch := omega) only [h1, eqQ_s, ↓reduceIte, and_self, bindS, mapS, eV_q, kV_p, kV_l, kV_t, eM_q, kM_s, eB_q, kB_s, eC_q, eW_q, kW_p, aN_q, aC_q, kAC_q, kCons_q, aMv_q, kMv_s, kMv2_q, kMv3_s, eL_q, kL_q, eT_q, kT_q, kP_q, kBl_q, kT2_q, eFz_q, kFz_q, eOp_q, kOp1_q, kOp2_q, eCmp_q, kCm1_q, kCm2_q, eNeg_q, kNeg_q, eChain_q, kCh1_q, kCh2_q, kCh3_q, cT_q, kcT_q, cNot_q, kNot_q, cAnd_q, kcAnd_t, kcAnd_f, cOr_q, kcOr_t, kcOr_f, eIf_q, keIf_t, keIf_f, eAnd_q, keAnd_t, keAnd_f, eOr_q, keOr_t, keOr_f, eNot_q, keNot_q, sIf_q, kcIf_t, kcIf_f, eB1_q, kB1_q, eI2_q, kI2_q, eIsi_q, kIsi_q, kLst_q, eList_q, kList_q, kTpl_q, eTuple_q, kTuple_q, eCall_q, kCall_q, kCall2_q, eCallB_q, kCallB_q, kCl_q, allP_n, allP_c, eIx_q, kIx1_q, kIx2_q, oN_q, oS_q, koS_q, eSl_q, kSl1_q, kSl2_q, kSl3_q, cutT_p, cutT_l, sNx_q, sBk_q, sCt_q, sRetN_q, sSeq_q, kSeq_n, kSeq_r, kSeq_b, kSeq_c, sRet_q, kRet_q, sSet_q, kSet_q, sDrop_q, kDrop_q, gNm_q, gEnd_q, gAnd_q, gTp_q, kTp_q, partsT_p, partsT_t, kNx_q, sAsg_q, kAsg_q, sFor_q, kFor_q, loop_n, loop_c, kLp1_q, kLp2_n, kLp2_c, kLp2_b, kLp2_r, iL_q, kiL_q, iTp_q, kiTp_q, iSg_q, kiSg_q, iR1_q, kR1_q, iR2_q, kR2_q, iEn_q, kEn_q, iZp_q, kZp_q, kZp_t, sForV_q, kForV_q, kForV1_q, kForV2_n, kForV2_r, atL_q, kAtL_q, sApp_q, kApp_q, kApp1_q, kApp2_q, sPut_q, kPut_q, kPut1_q, kPut2_q, kPut3_q, kPut4_q, kPutEnd_q, asI_q, sAugIx_q, kAx_q, kAx0_q, kAx1_q, kAx2_q, kAx3_q, kAx4_q, kAx5_q, kAx6_q, kAx7_q, kAx8_q, sAug_q, kAug_q, kAug2_q, kAug3_q, comp_n, comp_c, kCp1_q, kCp2_t, kCp2_f, kCp3_q, kCp4_q, eComp_q, kComp_q, kLs_q, cYes_q, wipe_n, wipe_c, eM1_q, kM11_q, kM12_q, eSplit_q, kSp1_q, kSp2_q, eJoin_q, kJn1_q, kJn2_q, kJn3_q, kJn4_q, eCat_q, kCt0_q, kCt1_q, kCt2_q, kCt3_pl, kCt3_ll, kCt3_lp, kCt3_pp, itemsT_p, itemsT_t, itemsT_ll, isLT_p, isLT_l, eDn_q, eDix_q, kDx1_q, kDx2_q, kDx3_q, kDx4_q, eDget_q, kDg1_q, kDg2_q, kDg3_q, kDg4_q, kDg5_q, eDin_q, kDi1_q, kDi2_q, kDi3_q, kDi4_t, kDi4_f, sPutD_q, kPd1_q, kPd2_q, kPd3_q, kPd4_q, kPd5_q, atD_q, kAtD_q, dicT_p, dicT_o, keyT_i, keyT_s, toD_d, kV_d, sForM_q, kForM_q, loopT_n, loopT_c, kLt1_q, kLt2_n, kLt2_r, eM0_q, kM0_q, iR3_q, runF_q, kRun_r, kRun_n, cutT_s, gStarts, gFind, startE, T.toDs, T.toD, cleanT, tyD, tyOk, List.length_cons, List.length_nil, List.length_map, List.map_cons, List.map_nil, List.replicate, List.cons_append, List.nil_append, List.getElem?_cons_zero, List.getElem?_cons_succ, List.set_cons_zero, List.set_cons_succ, Nat.reduceAdd, Nat.reduceSub, Nat.reduceLT, Nat.reduceLeDiff, Nat.zero_add, gAdd_i, gAdd_g, gSub_i, gAddI_i, gMul_l, gMul_r, gDiv_i, gMod_i, gPow_i, gMulA_g, cLt_i, cLe_i, cGt_i, cGe_i, eqQ_i, neQ_i, eqQ_g, neQ_g, eqQ_ints, neQ_ints, eqQ_b, neQ_b, inQ_g, notInQ_g, gLen_g, gStr_i, gStr_s, gSum_p, gSum_l, gLen_p, gLen_l, toD_l, toDs_p, allP_map, ixT_lst, ixT_pl, ixT_pt, ixT_sg, signsD_g, atI_0, atI_1, atI_2, atI_3, atI_4, atI_5, atI_6, ofS, sg_len, ifLe, ifLt, rng_len, decide_true, decide_false, Bool.false_eq_true, Bool.not_true, Bool.not_false, Int.reduceLT, Int.reduceLE, Int.reduceEq, kit_ii, kit_ib, kit_ll, kit_bb, kit_bi, kit_ss, kit_tt, kit_tl, kit_lt, kit_ls, kit_li, kit_lb, kit_is, kit_si, kit_sb, kit_ti, kit_tb, kit_ts]
  | 0, .lst _, h => by unfold aOk at h; cases h
  | n + 1, .lst ds, h => by
    unfold aOk at h
    rw [Bool.and_eq_true, decide_eq_true_eq] at h
    obtain ⟨hl, ha⟩ := h
    have h1 : isN (.lst ds) .non = some false := rfl
    have hi : ∀ k : Nat, ∀ d, ds[k]? = some d → ixT (.p (.lst ds)) k = some (.p d) := fun k d hd => by rw [ixT_pl, atI_nat hd]; rfl
    obtain ⟨b2, hb⟩ := alike_loop hi hi (fun d hd => alike_refl n d (aOks_all.mp ha d hd)) ds.length 0 none (by omega)
    rw [show ((0 : Nat) : Int) = 0 from rfl] at hb
    have e : ((ds.length : Nat) : Int).toNat = ds.length := by omega
    show runF 3 2 (F_law_alike (phi_law_alike (n + 1))) _ = _
    unfold F_law_alike
    simp (disch := omega) only [h1, hb, e, ↓reduceIte, and_self, bindS, mapS, eV_q, kV_p, kV_l, kV_t, eM_q, kM_s, eB_q, kB_s, eC_q, eW_q, kW_p, aN_q, aC_q, kAC_q, kCons_q, aMv_q, kMv_s, kMv2_q, kMv3_s, eL_q, kL_q, eT_q, kT_q, kP_q, kBl_q, kT2_q, eFz_q, kFz_q, eOp_q, kOp1_q, kOp2_q, eCmp_q, kCm1_q, kCm2_q, eNeg_q, kNeg_q, eChain_q, kCh1_q, kCh2_q, kCh3_q, cT_q, kcT_q, cNot_q, kNot_q, cAnd_q, kcAnd_t, kcAnd_f, cOr_q, kcOr_t, kcOr_f, eIf_q, keIf_t, keIf_f, eAnd_q, keAnd_t, keAnd_f, eOr_q, keOr_t, keOr_f, eNot_q, keNot_q, sIf_q, kcIf_t, kcIf_f, eB1_q, kB1_q, eI2_q, kI2_q, eIsi_q, kIsi_q, kLst_q, eList_q, kList_q, kTpl_q, eTuple_q, kTuple_q, eCall_q, kCall_q, kCall2_q, eCallB_q, kCallB_q, kCl_q, allP_n, allP_c, eIx_q, kIx1_q, kIx2_q, oN_q, oS_q, koS_q, eSl_q, kSl1_q, kSl2_q, kSl3_q, cutT_p, cutT_l, sNx_q, sBk_q, sCt_q, sRetN_q, sSeq_q, kSeq_n, kSeq_r, kSeq_b, kSeq_c, sRet_q, kRet_q, sSet_q, kSet_q, sDrop_q, kDrop_q, gNm_q, gEnd_q, gAnd_q, gTp_q, kTp_q, partsT_p, partsT_t, kNx_q, sAsg_q, kAsg_q, sFor_q, kFor_q, loop_n, loop_c, kLp1_q, kLp2_n, kLp2_c, kLp2_b, kLp2_r, iL_q, kiL_q, iTp_q, kiTp_q, iSg_q, kiSg_q, iR1_q, kR1_q, iR2_q, kR2_q, iEn_q, kEn_q, iZp_q, kZp_q, kZp_t, sForV_q, kForV_q, kForV1_q, kForV2_n, kForV2_r, atL_q, kAtL_q, sApp_q, kApp_q, kApp1_q, kApp2_q, sPut_q, kPut_q, kPut1_q, kPut2_q, kPut3_q, kPut4_q, kPutEnd_q, asI_q, sAugIx_q, kAx_q, kAx0_q, kAx1_q, kAx2_q, kAx3_q, kAx4_q, kAx5_q, kAx6_q, kAx7_q, kAx8_q, sAug_q, kAug_q, kAug2_q, kAug3_q, comp_n, comp_c, kCp1_q, kCp2_t, kCp2_f, kCp3_q, kCp4_q, eComp_q, kComp_q, kLs_q, cYes_q, wipe_n, wipe_c, eM1_q, kM11_q, kM12_q, eSplit_q, kSp1_q, kSp2_q, eJoin_q, kJn1_q, kJn2_q, kJn3_q, kJn4_q, eCat_q, kCt0_q, kCt1_q, kCt2_q, kCt3_pl, kCt3_ll, kCt3_lp, kCt3_pp, itemsT_p, itemsT_t, itemsT_ll, isLT_p, isLT_l, eDn_q, eDix_q, kDx1_q, kDx2_q, kDx3_q, kDx4_q, eDget_q, kDg1_q, kDg2_q, kDg3_q, kDg4_q, kDg5_q, eDin_q, kDi1_q, kDi2_q, kDi3_q, kDi4_t, kDi4_f, sPutD_q, kPd1_q, kPd2_q, kPd3_q, kPd4_q, kPd5_q, atD_q, kAtD_q, dicT_p, dicT_o, keyT_i, keyT_s, toD_d, kV_d, sForM_q, kForM_q, loopT_n, loopT_c, kLt1_q, kLt2_n, kLt2_r, eM0_q, kM0_q, iR3_q, runF_q, kRun_r, kRun_n, cutT_s, gStarts, gFind, startE, T.toDs, T.toD, cleanT, tyD, tyOk, List.length_cons, List.length_nil, List.length_map, List.map_cons, List.map_nil, List.replicate, List.cons_append, List.nil_append, List.getElem?_cons_zero, List.getElem?_cons_succ, List.set_cons_zero, List.set_cons_succ, Nat.reduceAdd, Nat.reduceSub, Nat.reduceLT, Nat.reduceLeDiff, Nat.zero_add, gAdd_i, gAdd_g, gSub_i, gAddI_i, gMul_l, gMul_r, gDiv_i, gMod_i, gPow_i, gMulA_g, cLt_i, cLe_i, cGt_i, cGe_i, eqQ_i, neQ_i, eqQ_g, neQ_g, eqQ_ints, neQ_ints, eqQ_b, neQ_b, inQ_g, notInQ_g, gLen_g, gStr_i, gStr_s, gSum_p, gSum_l, gLen_p, gLen_l, toD_l, toDs_p, allP_map, ixT_lst, ixT_pl, ixT_pt, ixT_sg, signsD_g, atI_0, atI_1, atI_2, atI_3, atI_4, atI_5, atI_6, ofS, sg_len, ifLe, ifLt, rng_len, decide_true, decide_false, Bool.false_eq_true, Bool.not_true, Bool.not_false, Int.reduceLT, Int.reduceLE, Int.reduceEq, kit_ii, kit_ib, kit_ll, kit_bb, kit_bi, kit_ss, kit_tt, kit_tl, kit_lt, kit_ls, kit_li, kit_lb, kit_is, kit_si, kit_sb, kit_ti, kit_tb, kit_ts]
  | 0, .tup _, h => by unfold aOk at h; cases h
  | n + 1, .tup ds, h => by
    unfold aOk at h
    rw [Bool.and_eq_true, decide_eq_true_eq] at h
    obtain ⟨hl, ha⟩ := h
    have h1 : isN (.tup ds) .non = some false := rfl
    have hi : ∀ k : Nat, ∀ d, ds[k]? = some d → ixT (.p (.tup ds)) k = some (.p d) := fun k d hd => by rw [ixT_pt, atI_nat hd]; rfl
    obtain ⟨b2, hb⟩ := alike_loop hi hi (fun d hd => alike_refl n d (aOks_all.mp ha d hd)) ds.length 0 none (by omega)
    rw [show ((0 : Nat) : Int) = 0 from rfl] at hb
    have e : ((ds.length : Nat) : Int).toNat = ds.length := by omega
    have gt : gLen (.p (.tup ds)) = some (.int ds.length) := rfl
    show runF 3 2 (F_law_alike (phi_law_alike (n + 1))) _ = _
    unfold F_law_alike
    simp (disch := omega) only [h1, hb, e, gt, ↓reduceIte, and_self, bindS, mapS, eV_q, kV_p, kV_l, kV_t, eM_q, kM_s, eB_q, kB_s, eC_q, eW_q, kW_p, aN_q, aC_q, kAC_q, kCons_q, aMv_q, kMv_s, kMv2_q, kMv3_s, eL_q, kL_q, eT_q, kT_q, kP_q, kBl_q, kT2_q, eFz_q, kFz_q, eOp_q, kOp1_q, kOp2_q, eCmp_q, kCm1_q, kCm2_q, eNeg_q, kNeg_q, eChain_q, kCh1_q, kCh2_q, kCh3_q, cT_q, kcT_q, cNot_q, kNot_q, cAnd_q, kcAnd_t, kcAnd_f, cOr_q, kcOr_t, kcOr_f, eIf_q, keIf_t, keIf_f, eAnd_q, keAnd_t, keAnd_f, eOr_q, keOr_t, keOr_f, eNot_q, keNot_q, sIf_q, kcIf_t, kcIf_f, eB1_q, kB1_q, eI2_q, kI2_q, eIsi_q, kIsi_q, kLst_q, eList_q, kList_q, kTpl_q, eTuple_q, kTuple_q, eCall_q, kCall_q, kCall2_q, eCallB_q, kCallB_q, kCl_q, allP_n, allP_c, eIx_q, kIx1_q, kIx2_q, oN_q, oS_q, koS_q, eSl_q, kSl1_q, kSl2_q, kSl3_q, cutT_p, cutT_l, sNx_q, sBk_q, sCt_q, sRetN_q, sSeq_q, kSeq_n, kSeq_r, kSeq_b, kSeq_c, sRet_q, kRet_q, sSet_q, kSet_q, sDrop_q, kDrop_q, gNm_q, gEnd_q, gAnd_q, gTp_q, kTp_q, partsT_p, partsT_t, kNx_q, sAsg_q, kAsg_q, sFor_q, kFor_q, loop_n, loop_c, kLp1_q, kLp2_n, kLp2_c, kLp2_b, kLp2_r, iL_q, kiL_q, iTp_q, kiTp_q, iSg_q, kiSg_q, iR1_q, kR1_q, iR2_q, kR2_q, iEn_q, kEn_q, iZp_q, kZp_q, kZp_t, sForV_q, kForV_q, kForV1_q, kForV2_n, kForV2_r, atL_q, kAtL_q, sApp_q, kApp_q, kApp1_q, kApp2_q, sPut_q, kPut_q, kPut1_q, kPut2_q, kPut3_q, kPut4_q, kPutEnd_q, asI_q, sAugIx_q, kAx_q, kAx0_q, kAx1_q, kAx2_q, kAx3_q, kAx4_q, kAx5_q, kAx6_q, kAx7_q, kAx8_q, sAug_q, kAug_q, kAug2_q, kAug3_q, comp_n, comp_c, kCp1_q, kCp2_t, kCp2_f, kCp3_q, kCp4_q, eComp_q, kComp_q, kLs_q, cYes_q, wipe_n, wipe_c, eM1_q, kM11_q, kM12_q, eSplit_q, kSp1_q, kSp2_q, eJoin_q, kJn1_q, kJn2_q, kJn3_q, kJn4_q, eCat_q, kCt0_q, kCt1_q, kCt2_q, kCt3_pl, kCt3_ll, kCt3_lp, kCt3_pp, itemsT_p, itemsT_t, itemsT_ll, isLT_p, isLT_l, eDn_q, eDix_q, kDx1_q, kDx2_q, kDx3_q, kDx4_q, eDget_q, kDg1_q, kDg2_q, kDg3_q, kDg4_q, kDg5_q, eDin_q, kDi1_q, kDi2_q, kDi3_q, kDi4_t, kDi4_f, sPutD_q, kPd1_q, kPd2_q, kPd3_q, kPd4_q, kPd5_q, atD_q, kAtD_q, dicT_p, dicT_o, keyT_i, keyT_s, toD_d, kV_d, sForM_q, kForM_q, loopT_n, loopT_c, kLt1_q, kLt2_n, kLt2_r, eM0_q, kM0_q, iR3_q, runF_q, kRun_r, kRun_n, cutT_s, gStarts, gFind, startE, T.toDs, T.toD, cleanT, tyD, tyOk, List.length_cons, List.length_nil, List.length_map, List.map_cons, List.map_nil, List.replicate, List.cons_append, List.nil_append, List.getElem?_cons_zero, List.getElem?_cons_succ, List.set_cons_zero, List.set_cons_succ, Nat.reduceAdd, Nat.reduceSub, Nat.reduceLT, Nat.reduceLeDiff, Nat.zero_add, gAdd_i, gAdd_g, gSub_i, gAddI_i, gMul_l, gMul_r, gDiv_i, gMod_i, gPow_i, gMulA_g, cLt_i, cLe_i, cGt_i, cGe_i, eqQ_i, neQ_i, eqQ_g, neQ_g, eqQ_ints, neQ_ints, eqQ_b, neQ_b, inQ_g, notInQ_g, gLen_g, gStr_i, gStr_s, gSum_p, gSum_l, gLen_p, gLen_l, toD_l, toDs_p, allP_map, ixT_lst, ixT_pl, ixT_pt, ixT_sg, signsD_g, atI_0, atI_1, atI_2, atI_3, atI_4, atI_5, atI_6, ofS, sg_len, ifLe, ifLt, rng_len, decide_true, decide_false, Bool.false_eq_true, Bool.not_true, Bool.not_false, Int.reduceLT, Int.reduceLE, Int.reduceEq, kit_ii, kit_ib, kit_ll, kit_bb, kit_bi, kit_ss, kit_tt, kit_tl, kit_lt, kit_ls, kit_li, kit_lb, kit_is, kit_si, kit_sb, kit_ti, kit_tb, kit_ts]
  | _, .dic _, h => by unfold aOk at h; cases h
  | _, .dit _, h => by unfold aOk at h; cases h
  | _, .obj _ _, h => by unfold aOk at h; cases h
  | _, .al _, h => by unfold aOk at h; cases h
  | _, .tux _, h => by unfold aOk at h; cases h
  | _, .din _, h => by unfold aOk at h; cases h
def mixed (c k : Int) : Int := (c % 2147483647 * 48271 + (k * k + 3 * k + 7) * 69621) % 2147483647 * ((c % 2147483647 * 48271 + (k * k + 3 * k + 7) * 69621) % 2147483647) % 2147483647
theorem mixed_ok (c k : Int) (hk : -18446744073709551616 < k ∧ k < 18446744073709551616) : phi_law_mixed [.int c, .int k] = some (.p (.int (mixed c k))) := by
  obtain ⟨h1, h2⟩ := hk
  unfold phi_law_mixed F_law_mixed
  simp (disch := omega) only [↓reduceIte, and_self, bindS, mapS, eV_q, kV_p, kV_l, kV_t, eM_q, kM_s, eB_q, kB_s, eC_q, eW_q, kW_p, aN_q, aC_q, kAC_q, kCons_q, aMv_q, kMv_s, kMv2_q, kMv3_s, eL_q, kL_q, eT_q, kT_q, kP_q, kBl_q, kT2_q, eFz_q, kFz_q, eOp_q, kOp1_q, kOp2_q, eCmp_q, kCm1_q, kCm2_q, eNeg_q, kNeg_q, eChain_q, kCh1_q, kCh2_q, kCh3_q, cT_q, kcT_q, cNot_q, kNot_q, cAnd_q, kcAnd_t, kcAnd_f, cOr_q, kcOr_t, kcOr_f, eIf_q, keIf_t, keIf_f, eAnd_q, keAnd_t, keAnd_f, eOr_q, keOr_t, keOr_f, eNot_q, keNot_q, sIf_q, kcIf_t, kcIf_f, eB1_q, kB1_q, eI2_q, kI2_q, eIsi_q, kIsi_q, kLst_q, eList_q, kList_q, kTpl_q, eTuple_q, kTuple_q, eCall_q, kCall_q, kCall2_q, eCallB_q, kCallB_q, kCl_q, allP_n, allP_c, eIx_q, kIx1_q, kIx2_q, oN_q, oS_q, koS_q, eSl_q, kSl1_q, kSl2_q, kSl3_q, cutT_p, cutT_l, sNx_q, sBk_q, sCt_q, sRetN_q, sSeq_q, kSeq_n, kSeq_r, kSeq_b, kSeq_c, sRet_q, kRet_q, sSet_q, kSet_q, sDrop_q, kDrop_q, gNm_q, gEnd_q, gAnd_q, gTp_q, kTp_q, partsT_p, partsT_t, kNx_q, sAsg_q, kAsg_q, sFor_q, kFor_q, loop_n, loop_c, kLp1_q, kLp2_n, kLp2_c, kLp2_b, kLp2_r, iL_q, kiL_q, iTp_q, kiTp_q, iSg_q, kiSg_q, iR1_q, kR1_q, iR2_q, kR2_q, iEn_q, kEn_q, iZp_q, kZp_q, kZp_t, sForV_q, kForV_q, kForV1_q, kForV2_n, kForV2_r, atL_q, kAtL_q, sApp_q, kApp_q, kApp1_q, kApp2_q, sPut_q, kPut_q, kPut1_q, kPut2_q, kPut3_q, kPut4_q, kPutEnd_q, asI_q, sAugIx_q, kAx_q, kAx0_q, kAx1_q, kAx2_q, kAx3_q, kAx4_q, kAx5_q, kAx6_q, kAx7_q, kAx8_q, sAug_q, kAug_q, kAug2_q, kAug3_q, comp_n, comp_c, kCp1_q, kCp2_t, kCp2_f, kCp3_q, kCp4_q, eComp_q, kComp_q, kLs_q, cYes_q, wipe_n, wipe_c, eM1_q, kM11_q, kM12_q, eSplit_q, kSp1_q, kSp2_q, eJoin_q, kJn1_q, kJn2_q, kJn3_q, kJn4_q, eCat_q, kCt0_q, kCt1_q, kCt2_q, kCt3_pl, kCt3_ll, kCt3_lp, kCt3_pp, itemsT_p, itemsT_t, itemsT_ll, isLT_p, isLT_l, eDn_q, eDix_q, kDx1_q, kDx2_q, kDx3_q, kDx4_q, eDget_q, kDg1_q, kDg2_q, kDg3_q, kDg4_q, kDg5_q, eDin_q, kDi1_q, kDi2_q, kDi3_q, kDi4_t, kDi4_f, sPutD_q, kPd1_q, kPd2_q, kPd3_q, kPd4_q, kPd5_q, atD_q, kAtD_q, dicT_p, dicT_o, keyT_i, keyT_s, toD_d, kV_d, sForM_q, kForM_q, loopT_n, loopT_c, kLt1_q, kLt2_n, kLt2_r, eM0_q, kM0_q, iR3_q, runF_q, kRun_r, kRun_n, cutT_s, gStarts, gFind, startE, T.toDs, T.toD, cleanT, tyD, tyOk, List.length_cons, List.length_nil, List.length_map, List.map_cons, List.map_nil, List.replicate, List.cons_append, List.nil_append, List.getElem?_cons_zero, List.getElem?_cons_succ, List.set_cons_zero, List.set_cons_succ, Nat.reduceAdd, Nat.reduceSub, Nat.reduceLT, Nat.reduceLeDiff, Nat.zero_add, gAdd_i, gAdd_g, gSub_i, gAddI_i, gMul_l, gMul_r, gDiv_i, gMod_i, gPow_i, gMulA_g, cLt_i, cLe_i, cGt_i, cGe_i, eqQ_i, neQ_i, eqQ_g, neQ_g, eqQ_ints, neQ_ints, eqQ_b, neQ_b, inQ_g, notInQ_g, gLen_g, gStr_i, gStr_s, gSum_p, gSum_l, gLen_p, gLen_l, toD_l, toDs_p, allP_map, ixT_lst, ixT_pl, ixT_pt, ixT_sg, signsD_g, atI_0, atI_1, atI_2, atI_3, atI_4, atI_5, atI_6, ofS, sg_len, ifLe, ifLt, rng_len, decide_true, decide_false, Bool.false_eq_true, Bool.not_true, Bool.not_false, Int.reduceLT, Int.reduceLE, Int.reduceEq, kit_ii, kit_ib, kit_ll, kit_bb, kit_bi, kit_ss, kit_tt, kit_tl, kit_lt, kit_ls, kit_li, kit_lb, kit_is, kit_si, kit_sb, kit_ti, kit_tb, kit_ts]
  rfl
theorem coins_ok (c w m : Int) (hw : 0 ≤ w ∧ w < 2147483647) (hm : 7 ≤ m ∧ m ≤ 1000000000000) : ∃ x, phi_law_coins [.int c, .int w, .int m] = some (.p (.int x)) ∧ 1 ≤ x ∧ x ≤ m := by
  obtain ⟨h1, h2⟩ := hw
  obtain ⟨h3, h4⟩ := hm
  have h5 := Int.emod_nonneg c (show m ≠ 0 by omega)
  have h6 := Int.emod_lt_of_pos c (show 0 < m by omega)
  have h7 := Int.emod_nonneg ((c % m + 1) * (w + 48271) * 99999999999999997) (show m ≠ 0 by omega)
  have h8 := Int.emod_lt_of_pos ((c % m + 1) * (w + 48271) * 99999999999999997) (show 0 < m by omega)
  unfold phi_law_coins F_law_coins
  have hc : w % 5 = 0 ∨ w % 5 = 1 ∨ w % 5 = 2 ∨ w % 5 = 3 ∨ w % 5 = 4 := by omega
  rcases hc with h | h | h | h | h
  · simp (disch := omega) only [h, ↓reduceIte, and_self, bindS, mapS, eV_q, kV_p, kV_l, kV_t, eM_q, kM_s, eB_q, kB_s, eC_q, eW_q, kW_p, aN_q, aC_q, kAC_q, kCons_q, aMv_q, kMv_s, kMv2_q, kMv3_s, eL_q, kL_q, eT_q, kT_q, kP_q, kBl_q, kT2_q, eFz_q, kFz_q, eOp_q, kOp1_q, kOp2_q, eCmp_q, kCm1_q, kCm2_q, eNeg_q, kNeg_q, eChain_q, kCh1_q, kCh2_q, kCh3_q, cT_q, kcT_q, cNot_q, kNot_q, cAnd_q, kcAnd_t, kcAnd_f, cOr_q, kcOr_t, kcOr_f, eIf_q, keIf_t, keIf_f, eAnd_q, keAnd_t, keAnd_f, eOr_q, keOr_t, keOr_f, eNot_q, keNot_q, sIf_q, kcIf_t, kcIf_f, eB1_q, kB1_q, eI2_q, kI2_q, eIsi_q, kIsi_q, kLst_q, eList_q, kList_q, kTpl_q, eTuple_q, kTuple_q, eCall_q, kCall_q, kCall2_q, eCallB_q, kCallB_q, kCl_q, allP_n, allP_c, eIx_q, kIx1_q, kIx2_q, oN_q, oS_q, koS_q, eSl_q, kSl1_q, kSl2_q, kSl3_q, cutT_p, cutT_l, sNx_q, sBk_q, sCt_q, sRetN_q, sSeq_q, kSeq_n, kSeq_r, kSeq_b, kSeq_c, sRet_q, kRet_q, sSet_q, kSet_q, sDrop_q, kDrop_q, gNm_q, gEnd_q, gAnd_q, gTp_q, kTp_q, partsT_p, partsT_t, kNx_q, sAsg_q, kAsg_q, sFor_q, kFor_q, loop_n, loop_c, kLp1_q, kLp2_n, kLp2_c, kLp2_b, kLp2_r, iL_q, kiL_q, iTp_q, kiTp_q, iSg_q, kiSg_q, iR1_q, kR1_q, iR2_q, kR2_q, iEn_q, kEn_q, iZp_q, kZp_q, kZp_t, sForV_q, kForV_q, kForV1_q, kForV2_n, kForV2_r, atL_q, kAtL_q, sApp_q, kApp_q, kApp1_q, kApp2_q, sPut_q, kPut_q, kPut1_q, kPut2_q, kPut3_q, kPut4_q, kPutEnd_q, asI_q, sAugIx_q, kAx_q, kAx0_q, kAx1_q, kAx2_q, kAx3_q, kAx4_q, kAx5_q, kAx6_q, kAx7_q, kAx8_q, sAug_q, kAug_q, kAug2_q, kAug3_q, comp_n, comp_c, kCp1_q, kCp2_t, kCp2_f, kCp3_q, kCp4_q, eComp_q, kComp_q, kLs_q, cYes_q, wipe_n, wipe_c, eM1_q, kM11_q, kM12_q, eSplit_q, kSp1_q, kSp2_q, eJoin_q, kJn1_q, kJn2_q, kJn3_q, kJn4_q, eCat_q, kCt0_q, kCt1_q, kCt2_q, kCt3_pl, kCt3_ll, kCt3_lp, kCt3_pp, itemsT_p, itemsT_t, itemsT_ll, isLT_p, isLT_l, eDn_q, eDix_q, kDx1_q, kDx2_q, kDx3_q, kDx4_q, eDget_q, kDg1_q, kDg2_q, kDg3_q, kDg4_q, kDg5_q, eDin_q, kDi1_q, kDi2_q, kDi3_q, kDi4_t, kDi4_f, sPutD_q, kPd1_q, kPd2_q, kPd3_q, kPd4_q, kPd5_q, atD_q, kAtD_q, dicT_p, dicT_o, keyT_i, keyT_s, toD_d, kV_d, sForM_q, kForM_q, loopT_n, loopT_c, kLt1_q, kLt2_n, kLt2_r, eM0_q, kM0_q, iR3_q, runF_q, kRun_r, kRun_n, cutT_s, gStarts, gFind, startE, T.toDs, T.toD, cleanT, tyD, tyOk, List.length_cons, List.length_nil, List.length_map, List.map_cons, List.map_nil, List.replicate, List.cons_append, List.nil_append, List.getElem?_cons_zero, List.getElem?_cons_succ, List.set_cons_zero, List.set_cons_succ, Nat.reduceAdd, Nat.reduceSub, Nat.reduceLT, Nat.reduceLeDiff, Nat.zero_add, gAdd_i, gAdd_g, gSub_i, gAddI_i, gMul_l, gMul_r, gDiv_i, gMod_i, gPow_i, gMulA_g, cLt_i, cLe_i, cGt_i, cGe_i, eqQ_i, neQ_i, eqQ_g, neQ_g, eqQ_ints, neQ_ints, eqQ_b, neQ_b, inQ_g, notInQ_g, gLen_g, gStr_i, gStr_s, gSum_p, gSum_l, gLen_p, gLen_l, toD_l, toDs_p, allP_map, ixT_lst, ixT_pl, ixT_pt, ixT_sg, signsD_g, atI_0, atI_1, atI_2, atI_3, atI_4, atI_5, atI_6, ofS, sg_len, ifLe, ifLt, rng_len, decide_true, decide_false, Bool.false_eq_true, Bool.not_true, Bool.not_false, Int.reduceLT, Int.reduceLE, Int.reduceEq, kit_ii, kit_ib, kit_ll, kit_bb, kit_bi, kit_ss, kit_tt, kit_tl, kit_lt, kit_ls, kit_li, kit_lb, kit_is, kit_si, kit_sb, kit_ti, kit_tb, kit_ts]; exact ⟨_, rfl, by omega, by omega⟩
  · simp (disch := omega) only [h, ↓reduceIte, and_self, bindS, mapS, eV_q, kV_p, kV_l, kV_t, eM_q, kM_s, eB_q, kB_s, eC_q, eW_q, kW_p, aN_q, aC_q, kAC_q, kCons_q, aMv_q, kMv_s, kMv2_q, kMv3_s, eL_q, kL_q, eT_q, kT_q, kP_q, kBl_q, kT2_q, eFz_q, kFz_q, eOp_q, kOp1_q, kOp2_q, eCmp_q, kCm1_q, kCm2_q, eNeg_q, kNeg_q, eChain_q, kCh1_q, kCh2_q, kCh3_q, cT_q, kcT_q, cNot_q, kNot_q, cAnd_q, kcAnd_t, kcAnd_f, cOr_q, kcOr_t, kcOr_f, eIf_q, keIf_t, keIf_f, eAnd_q, keAnd_t, keAnd_f, eOr_q, keOr_t, keOr_f, eNot_q, keNot_q, sIf_q, kcIf_t, kcIf_f, eB1_q, kB1_q, eI2_q, kI2_q, eIsi_q, kIsi_q, kLst_q, eList_q, kList_q, kTpl_q, eTuple_q, kTuple_q, eCall_q, kCall_q, kCall2_q, eCallB_q, kCallB_q, kCl_q, allP_n, allP_c, eIx_q, kIx1_q, kIx2_q, oN_q, oS_q, koS_q, eSl_q, kSl1_q, kSl2_q, kSl3_q, cutT_p, cutT_l, sNx_q, sBk_q, sCt_q, sRetN_q, sSeq_q, kSeq_n, kSeq_r, kSeq_b, kSeq_c, sRet_q, kRet_q, sSet_q, kSet_q, sDrop_q, kDrop_q, gNm_q, gEnd_q, gAnd_q, gTp_q, kTp_q, partsT_p, partsT_t, kNx_q, sAsg_q, kAsg_q, sFor_q, kFor_q, loop_n, loop_c, kLp1_q, kLp2_n, kLp2_c, kLp2_b, kLp2_r, iL_q, kiL_q, iTp_q, kiTp_q, iSg_q, kiSg_q, iR1_q, kR1_q, iR2_q, kR2_q, iEn_q, kEn_q, iZp_q, kZp_q, kZp_t, sForV_q, kForV_q, kForV1_q, kForV2_n, kForV2_r, atL_q, kAtL_q, sApp_q, kApp_q, kApp1_q, kApp2_q, sPut_q, kPut_q, kPut1_q, kPut2_q, kPut3_q, kPut4_q, kPutEnd_q, asI_q, sAugIx_q, kAx_q, kAx0_q, kAx1_q, kAx2_q, kAx3_q, kAx4_q, kAx5_q, kAx6_q, kAx7_q, kAx8_q, sAug_q, kAug_q, kAug2_q, kAug3_q, comp_n, comp_c, kCp1_q, kCp2_t, kCp2_f, kCp3_q, kCp4_q, eComp_q, kComp_q, kLs_q, cYes_q, wipe_n, wipe_c, eM1_q, kM11_q, kM12_q, eSplit_q, kSp1_q, kSp2_q, eJoin_q, kJn1_q, kJn2_q, kJn3_q, kJn4_q, eCat_q, kCt0_q, kCt1_q, kCt2_q, kCt3_pl, kCt3_ll, kCt3_lp, kCt3_pp, itemsT_p, itemsT_t, itemsT_ll, isLT_p, isLT_l, eDn_q, eDix_q, kDx1_q, kDx2_q, kDx3_q, kDx4_q, eDget_q, kDg1_q, kDg2_q, kDg3_q, kDg4_q, kDg5_q, eDin_q, kDi1_q, kDi2_q, kDi3_q, kDi4_t, kDi4_f, sPutD_q, kPd1_q, kPd2_q, kPd3_q, kPd4_q, kPd5_q, atD_q, kAtD_q, dicT_p, dicT_o, keyT_i, keyT_s, toD_d, kV_d, sForM_q, kForM_q, loopT_n, loopT_c, kLt1_q, kLt2_n, kLt2_r, eM0_q, kM0_q, iR3_q, runF_q, kRun_r, kRun_n, cutT_s, gStarts, gFind, startE, T.toDs, T.toD, cleanT, tyD, tyOk, List.length_cons, List.length_nil, List.length_map, List.map_cons, List.map_nil, List.replicate, List.cons_append, List.nil_append, List.getElem?_cons_zero, List.getElem?_cons_succ, List.set_cons_zero, List.set_cons_succ, Nat.reduceAdd, Nat.reduceSub, Nat.reduceLT, Nat.reduceLeDiff, Nat.zero_add, gAdd_i, gAdd_g, gSub_i, gAddI_i, gMul_l, gMul_r, gDiv_i, gMod_i, gPow_i, gMulA_g, cLt_i, cLe_i, cGt_i, cGe_i, eqQ_i, neQ_i, eqQ_g, neQ_g, eqQ_ints, neQ_ints, eqQ_b, neQ_b, inQ_g, notInQ_g, gLen_g, gStr_i, gStr_s, gSum_p, gSum_l, gLen_p, gLen_l, toD_l, toDs_p, allP_map, ixT_lst, ixT_pl, ixT_pt, ixT_sg, signsD_g, atI_0, atI_1, atI_2, atI_3, atI_4, atI_5, atI_6, ofS, sg_len, ifLe, ifLt, rng_len, decide_true, decide_false, Bool.false_eq_true, Bool.not_true, Bool.not_false, Int.reduceLT, Int.reduceLE, Int.reduceEq, kit_ii, kit_ib, kit_ll, kit_bb, kit_bi, kit_ss, kit_tt, kit_tl, kit_lt, kit_ls, kit_li, kit_lb, kit_is, kit_si, kit_sb, kit_ti, kit_tb, kit_ts]; exact ⟨_, rfl, by omega, by omega⟩
  · simp (disch := omega) only [h, ↓reduceIte, and_self, bindS, mapS, eV_q, kV_p, kV_l, kV_t, eM_q, kM_s, eB_q, kB_s, eC_q, eW_q, kW_p, aN_q, aC_q, kAC_q, kCons_q, aMv_q, kMv_s, kMv2_q, kMv3_s, eL_q, kL_q, eT_q, kT_q, kP_q, kBl_q, kT2_q, eFz_q, kFz_q, eOp_q, kOp1_q, kOp2_q, eCmp_q, kCm1_q, kCm2_q, eNeg_q, kNeg_q, eChain_q, kCh1_q, kCh2_q, kCh3_q, cT_q, kcT_q, cNot_q, kNot_q, cAnd_q, kcAnd_t, kcAnd_f, cOr_q, kcOr_t, kcOr_f, eIf_q, keIf_t, keIf_f, eAnd_q, keAnd_t, keAnd_f, eOr_q, keOr_t, keOr_f, eNot_q, keNot_q, sIf_q, kcIf_t, kcIf_f, eB1_q, kB1_q, eI2_q, kI2_q, eIsi_q, kIsi_q, kLst_q, eList_q, kList_q, kTpl_q, eTuple_q, kTuple_q, eCall_q, kCall_q, kCall2_q, eCallB_q, kCallB_q, kCl_q, allP_n, allP_c, eIx_q, kIx1_q, kIx2_q, oN_q, oS_q, koS_q, eSl_q, kSl1_q, kSl2_q, kSl3_q, cutT_p, cutT_l, sNx_q, sBk_q, sCt_q, sRetN_q, sSeq_q, kSeq_n, kSeq_r, kSeq_b, kSeq_c, sRet_q, kRet_q, sSet_q, kSet_q, sDrop_q, kDrop_q, gNm_q, gEnd_q, gAnd_q, gTp_q, kTp_q, partsT_p, partsT_t, kNx_q, sAsg_q, kAsg_q, sFor_q, kFor_q, loop_n, loop_c, kLp1_q, kLp2_n, kLp2_c, kLp2_b, kLp2_r, iL_q, kiL_q, iTp_q, kiTp_q, iSg_q, kiSg_q, iR1_q, kR1_q, iR2_q, kR2_q, iEn_q, kEn_q, iZp_q, kZp_q, kZp_t, sForV_q, kForV_q, kForV1_q, kForV2_n, kForV2_r, atL_q, kAtL_q, sApp_q, kApp_q, kApp1_q, kApp2_q, sPut_q, kPut_q, kPut1_q, kPut2_q, kPut3_q, kPut4_q, kPutEnd_q, asI_q, sAugIx_q, kAx_q, kAx0_q, kAx1_q, kAx2_q, kAx3_q, kAx4_q, kAx5_q, kAx6_q, kAx7_q, kAx8_q, sAug_q, kAug_q, kAug2_q, kAug3_q, comp_n, comp_c, kCp1_q, kCp2_t, kCp2_f, kCp3_q, kCp4_q, eComp_q, kComp_q, kLs_q, cYes_q, wipe_n, wipe_c, eM1_q, kM11_q, kM12_q, eSplit_q, kSp1_q, kSp2_q, eJoin_q, kJn1_q, kJn2_q, kJn3_q, kJn4_q, eCat_q, kCt0_q, kCt1_q, kCt2_q, kCt3_pl, kCt3_ll, kCt3_lp, kCt3_pp, itemsT_p, itemsT_t, itemsT_ll, isLT_p, isLT_l, eDn_q, eDix_q, kDx1_q, kDx2_q, kDx3_q, kDx4_q, eDget_q, kDg1_q, kDg2_q, kDg3_q, kDg4_q, kDg5_q, eDin_q, kDi1_q, kDi2_q, kDi3_q, kDi4_t, kDi4_f, sPutD_q, kPd1_q, kPd2_q, kPd3_q, kPd4_q, kPd5_q, atD_q, kAtD_q, dicT_p, dicT_o, keyT_i, keyT_s, toD_d, kV_d, sForM_q, kForM_q, loopT_n, loopT_c, kLt1_q, kLt2_n, kLt2_r, eM0_q, kM0_q, iR3_q, runF_q, kRun_r, kRun_n, cutT_s, gStarts, gFind, startE, T.toDs, T.toD, cleanT, tyD, tyOk, List.length_cons, List.length_nil, List.length_map, List.map_cons, List.map_nil, List.replicate, List.cons_append, List.nil_append, List.getElem?_cons_zero, List.getElem?_cons_succ, List.set_cons_zero, List.set_cons_succ, Nat.reduceAdd, Nat.reduceSub, Nat.reduceLT, Nat.reduceLeDiff, Nat.zero_add, gAdd_i, gAdd_g, gSub_i, gAddI_i, gMul_l, gMul_r, gDiv_i, gMod_i, gPow_i, gMulA_g, cLt_i, cLe_i, cGt_i, cGe_i, eqQ_i, neQ_i, eqQ_g, neQ_g, eqQ_ints, neQ_ints, eqQ_b, neQ_b, inQ_g, notInQ_g, gLen_g, gStr_i, gStr_s, gSum_p, gSum_l, gLen_p, gLen_l, toD_l, toDs_p, allP_map, ixT_lst, ixT_pl, ixT_pt, ixT_sg, signsD_g, atI_0, atI_1, atI_2, atI_3, atI_4, atI_5, atI_6, ofS, sg_len, ifLe, ifLt, rng_len, decide_true, decide_false, Bool.false_eq_true, Bool.not_true, Bool.not_false, Int.reduceLT, Int.reduceLE, Int.reduceEq, kit_ii, kit_ib, kit_ll, kit_bb, kit_bi, kit_ss, kit_tt, kit_tl, kit_lt, kit_ls, kit_li, kit_lb, kit_is, kit_si, kit_sb, kit_ti, kit_tb, kit_ts]; exact ⟨_, rfl, by omega, by omega⟩
  · simp (disch := omega) only [h, ↓reduceIte, and_self, bindS, mapS, eV_q, kV_p, kV_l, kV_t, eM_q, kM_s, eB_q, kB_s, eC_q, eW_q, kW_p, aN_q, aC_q, kAC_q, kCons_q, aMv_q, kMv_s, kMv2_q, kMv3_s, eL_q, kL_q, eT_q, kT_q, kP_q, kBl_q, kT2_q, eFz_q, kFz_q, eOp_q, kOp1_q, kOp2_q, eCmp_q, kCm1_q, kCm2_q, eNeg_q, kNeg_q, eChain_q, kCh1_q, kCh2_q, kCh3_q, cT_q, kcT_q, cNot_q, kNot_q, cAnd_q, kcAnd_t, kcAnd_f, cOr_q, kcOr_t, kcOr_f, eIf_q, keIf_t, keIf_f, eAnd_q, keAnd_t, keAnd_f, eOr_q, keOr_t, keOr_f, eNot_q, keNot_q, sIf_q, kcIf_t, kcIf_f, eB1_q, kB1_q, eI2_q, kI2_q, eIsi_q, kIsi_q, kLst_q, eList_q, kList_q, kTpl_q, eTuple_q, kTuple_q, eCall_q, kCall_q, kCall2_q, eCallB_q, kCallB_q, kCl_q, allP_n, allP_c, eIx_q, kIx1_q, kIx2_q, oN_q, oS_q, koS_q, eSl_q, kSl1_q, kSl2_q, kSl3_q, cutT_p, cutT_l, sNx_q, sBk_q, sCt_q, sRetN_q, sSeq_q, kSeq_n, kSeq_r, kSeq_b, kSeq_c, sRet_q, kRet_q, sSet_q, kSet_q, sDrop_q, kDrop_q, gNm_q, gEnd_q, gAnd_q, gTp_q, kTp_q, partsT_p, partsT_t, kNx_q, sAsg_q, kAsg_q, sFor_q, kFor_q, loop_n, loop_c, kLp1_q, kLp2_n, kLp2_c, kLp2_b, kLp2_r, iL_q, kiL_q, iTp_q, kiTp_q, iSg_q, kiSg_q, iR1_q, kR1_q, iR2_q, kR2_q, iEn_q, kEn_q, iZp_q, kZp_q, kZp_t, sForV_q, kForV_q, kForV1_q, kForV2_n, kForV2_r, atL_q, kAtL_q, sApp_q, kApp_q, kApp1_q, kApp2_q, sPut_q, kPut_q, kPut1_q, kPut2_q, kPut3_q, kPut4_q, kPutEnd_q, asI_q, sAugIx_q, kAx_q, kAx0_q, kAx1_q, kAx2_q, kAx3_q, kAx4_q, kAx5_q, kAx6_q, kAx7_q, kAx8_q, sAug_q, kAug_q, kAug2_q, kAug3_q, comp_n, comp_c, kCp1_q, kCp2_t, kCp2_f, kCp3_q, kCp4_q, eComp_q, kComp_q, kLs_q, cYes_q, wipe_n, wipe_c, eM1_q, kM11_q, kM12_q, eSplit_q, kSp1_q, kSp2_q, eJoin_q, kJn1_q, kJn2_q, kJn3_q, kJn4_q, eCat_q, kCt0_q, kCt1_q, kCt2_q, kCt3_pl, kCt3_ll, kCt3_lp, kCt3_pp, itemsT_p, itemsT_t, itemsT_ll, isLT_p, isLT_l, eDn_q, eDix_q, kDx1_q, kDx2_q, kDx3_q, kDx4_q, eDget_q, kDg1_q, kDg2_q, kDg3_q, kDg4_q, kDg5_q, eDin_q, kDi1_q, kDi2_q, kDi3_q, kDi4_t, kDi4_f, sPutD_q, kPd1_q, kPd2_q, kPd3_q, kPd4_q, kPd5_q, atD_q, kAtD_q, dicT_p, dicT_o, keyT_i, keyT_s, toD_d, kV_d, sForM_q, kForM_q, loopT_n, loopT_c, kLt1_q, kLt2_n, kLt2_r, eM0_q, kM0_q, iR3_q, runF_q, kRun_r, kRun_n, cutT_s, gStarts, gFind, startE, T.toDs, T.toD, cleanT, tyD, tyOk, List.length_cons, List.length_nil, List.length_map, List.map_cons, List.map_nil, List.replicate, List.cons_append, List.nil_append, List.getElem?_cons_zero, List.getElem?_cons_succ, List.set_cons_zero, List.set_cons_succ, Nat.reduceAdd, Nat.reduceSub, Nat.reduceLT, Nat.reduceLeDiff, Nat.zero_add, gAdd_i, gAdd_g, gSub_i, gAddI_i, gMul_l, gMul_r, gDiv_i, gMod_i, gPow_i, gMulA_g, cLt_i, cLe_i, cGt_i, cGe_i, eqQ_i, neQ_i, eqQ_g, neQ_g, eqQ_ints, neQ_ints, eqQ_b, neQ_b, inQ_g, notInQ_g, gLen_g, gStr_i, gStr_s, gSum_p, gSum_l, gLen_p, gLen_l, toD_l, toDs_p, allP_map, ixT_lst, ixT_pl, ixT_pt, ixT_sg, signsD_g, atI_0, atI_1, atI_2, atI_3, atI_4, atI_5, atI_6, ofS, sg_len, ifLe, ifLt, rng_len, decide_true, decide_false, Bool.false_eq_true, Bool.not_true, Bool.not_false, Int.reduceLT, Int.reduceLE, Int.reduceEq, kit_ii, kit_ib, kit_ll, kit_bb, kit_bi, kit_ss, kit_tt, kit_tl, kit_lt, kit_ls, kit_li, kit_lb, kit_is, kit_si, kit_sb, kit_ti, kit_tb, kit_ts]; exact ⟨_, rfl, by omega, by omega⟩
  · simp (disch := omega) only [h, ↓reduceIte, and_self, bindS, mapS, eV_q, kV_p, kV_l, kV_t, eM_q, kM_s, eB_q, kB_s, eC_q, eW_q, kW_p, aN_q, aC_q, kAC_q, kCons_q, aMv_q, kMv_s, kMv2_q, kMv3_s, eL_q, kL_q, eT_q, kT_q, kP_q, kBl_q, kT2_q, eFz_q, kFz_q, eOp_q, kOp1_q, kOp2_q, eCmp_q, kCm1_q, kCm2_q, eNeg_q, kNeg_q, eChain_q, kCh1_q, kCh2_q, kCh3_q, cT_q, kcT_q, cNot_q, kNot_q, cAnd_q, kcAnd_t, kcAnd_f, cOr_q, kcOr_t, kcOr_f, eIf_q, keIf_t, keIf_f, eAnd_q, keAnd_t, keAnd_f, eOr_q, keOr_t, keOr_f, eNot_q, keNot_q, sIf_q, kcIf_t, kcIf_f, eB1_q, kB1_q, eI2_q, kI2_q, eIsi_q, kIsi_q, kLst_q, eList_q, kList_q, kTpl_q, eTuple_q, kTuple_q, eCall_q, kCall_q, kCall2_q, eCallB_q, kCallB_q, kCl_q, allP_n, allP_c, eIx_q, kIx1_q, kIx2_q, oN_q, oS_q, koS_q, eSl_q, kSl1_q, kSl2_q, kSl3_q, cutT_p, cutT_l, sNx_q, sBk_q, sCt_q, sRetN_q, sSeq_q, kSeq_n, kSeq_r, kSeq_b, kSeq_c, sRet_q, kRet_q, sSet_q, kSet_q, sDrop_q, kDrop_q, gNm_q, gEnd_q, gAnd_q, gTp_q, kTp_q, partsT_p, partsT_t, kNx_q, sAsg_q, kAsg_q, sFor_q, kFor_q, loop_n, loop_c, kLp1_q, kLp2_n, kLp2_c, kLp2_b, kLp2_r, iL_q, kiL_q, iTp_q, kiTp_q, iSg_q, kiSg_q, iR1_q, kR1_q, iR2_q, kR2_q, iEn_q, kEn_q, iZp_q, kZp_q, kZp_t, sForV_q, kForV_q, kForV1_q, kForV2_n, kForV2_r, atL_q, kAtL_q, sApp_q, kApp_q, kApp1_q, kApp2_q, sPut_q, kPut_q, kPut1_q, kPut2_q, kPut3_q, kPut4_q, kPutEnd_q, asI_q, sAugIx_q, kAx_q, kAx0_q, kAx1_q, kAx2_q, kAx3_q, kAx4_q, kAx5_q, kAx6_q, kAx7_q, kAx8_q, sAug_q, kAug_q, kAug2_q, kAug3_q, comp_n, comp_c, kCp1_q, kCp2_t, kCp2_f, kCp3_q, kCp4_q, eComp_q, kComp_q, kLs_q, cYes_q, wipe_n, wipe_c, eM1_q, kM11_q, kM12_q, eSplit_q, kSp1_q, kSp2_q, eJoin_q, kJn1_q, kJn2_q, kJn3_q, kJn4_q, eCat_q, kCt0_q, kCt1_q, kCt2_q, kCt3_pl, kCt3_ll, kCt3_lp, kCt3_pp, itemsT_p, itemsT_t, itemsT_ll, isLT_p, isLT_l, eDn_q, eDix_q, kDx1_q, kDx2_q, kDx3_q, kDx4_q, eDget_q, kDg1_q, kDg2_q, kDg3_q, kDg4_q, kDg5_q, eDin_q, kDi1_q, kDi2_q, kDi3_q, kDi4_t, kDi4_f, sPutD_q, kPd1_q, kPd2_q, kPd3_q, kPd4_q, kPd5_q, atD_q, kAtD_q, dicT_p, dicT_o, keyT_i, keyT_s, toD_d, kV_d, sForM_q, kForM_q, loopT_n, loopT_c, kLt1_q, kLt2_n, kLt2_r, eM0_q, kM0_q, iR3_q, runF_q, kRun_r, kRun_n, cutT_s, gStarts, gFind, startE, T.toDs, T.toD, cleanT, tyD, tyOk, List.length_cons, List.length_nil, List.length_map, List.map_cons, List.map_nil, List.replicate, List.cons_append, List.nil_append, List.getElem?_cons_zero, List.getElem?_cons_succ, List.set_cons_zero, List.set_cons_succ, Nat.reduceAdd, Nat.reduceSub, Nat.reduceLT, Nat.reduceLeDiff, Nat.zero_add, gAdd_i, gAdd_g, gSub_i, gAddI_i, gMul_l, gMul_r, gDiv_i, gMod_i, gPow_i, gMulA_g, cLt_i, cLe_i, cGt_i, cGe_i, eqQ_i, neQ_i, eqQ_g, neQ_g, eqQ_ints, neQ_ints, eqQ_b, neQ_b, inQ_g, notInQ_g, gLen_g, gStr_i, gStr_s, gSum_p, gSum_l, gLen_p, gLen_l, toD_l, toDs_p, allP_map, ixT_lst, ixT_pl, ixT_pt, ixT_sg, signsD_g, atI_0, atI_1, atI_2, atI_3, atI_4, atI_5, atI_6, ofS, sg_len, ifLe, ifLt, rng_len, decide_true, decide_false, Bool.false_eq_true, Bool.not_true, Bool.not_false, Int.reduceLT, Int.reduceLE, Int.reduceEq, kit_ii, kit_ib, kit_ll, kit_bb, kit_bi, kit_ss, kit_tt, kit_tl, kit_lt, kit_ls, kit_li, kit_lb, kit_is, kit_si, kit_sb, kit_ti, kit_tb, kit_ts]; exact ⟨_, rfl, by omega, by omega⟩
end LW
namespace DL
open PySem PySem.Spec PyProof.Rows L2
abbrev Nm := List Nat
abbrev eS (l : Nm) : D := .str (sg l)
abbrev eLs {α : Type} (e : α → D) (xs : List α) : D := .lst (xs.map e)
abbrev eSq {α : Type} (e : α → D) (xs : List α) : D := .tup (xs.map e)
section
variable {α β γ δ ε ζ η θ : Type}
abbrev eT2 (a : α → D) (b : β → D) (p : α × β) : D := .tup [a p.1, b p.2]
abbrev eT3 (a : α → D) (b : β → D) (c : γ → D) (p : α × β × γ) : D := .tup [a p.1, b p.2.1, c p.2.2]
abbrev eT4 (a : α → D) (b : β → D) (c : γ → D) (d : δ → D) (p : α × β × γ × δ) : D := .tup [a p.1, b p.2.1, c p.2.2.1, d p.2.2.2]
abbrev eT7 (a : α → D) (b : β → D) (c : γ → D) (d : δ → D) (e : ε → D) (f : ζ → D) (g : η → D) (p : α × β × γ × δ × ε × ζ × η) : D := .tup [a p.1, b p.2.1, c p.2.2.1, d p.2.2.2.1, e p.2.2.2.2.1, f p.2.2.2.2.2.1, g p.2.2.2.2.2.2]
abbrev kS (l : Nm) : Key := .inr (sg l)
abbrev kI (i : Int) : Key := .inl i
abbrev eKd (k : β → Key) (e : α → D) (kv : List (β × α)) : D := .dic (kv.map fun p => (k p.1, e p.2))
abbrev oL (e : α → D) (xs : List α) : T := .lst ((xs.map e).map T.p)
abbrev oE (E : α → T) (xs : List α) : T := .lst (xs.map E)
abbrev oK (k : β → Key) (e : α → D) (kv : List (β × α)) : T := .dic (pairsT (kv.map fun p => (k p.1, e p.2)))
abbrev pE (e : α → D) (x : α) : T := .p (e x)
theorem oE_toD {E : α → T} {e : α → D} (h : ∀ x, (E x).toD = e x) (xs : List α) : (oE E xs).toD = eLs e xs := by
  show D.lst (T.toDs (xs.map E)) = _
  rw [toDs_map2 E e xs fun x _ => h x]
theorem oL_toD {e : α → D} (xs : List α) : (oL e xs).toD = eLs e xs := toD_l
theorem oK_toD {k : β → Key} {e : α → D} (kv : List (β × α)) : (oK k e kv).toD = eKd k e kv := toD_d _
inductive Lp (σ ρ : Type) where
  | nx (s : σ) | bk (s : σ) | rt (r : ρ)
def fold {σ : Type} (f : α → σ → Option σ) : List α → σ → Option σ
  | [], s => some s
  | x :: xs, s => (f x s).bind (fold f xs)
def lpB {σ ρ : Type} (k : σ → Option (Lp σ ρ)) : Lp σ ρ → Option (Lp σ ρ)
  | .nx s => k s
  | .bk s => some (.nx s)
  | .rt r => some (.rt r)
def foldB {σ ρ : Type} (f : α → σ → Option (Lp σ ρ)) : List α → σ → Option (Lp σ ρ)
  | [], s => some (.nx s)
  | x :: xs, s => (f x s).bind (lpB (foldB f xs))
def lpK {σ ρ τ : Type} (k : σ → Option τ) (a : ρ → Option τ) : Lp σ ρ → Option τ
  | .nx s => k s
  | .bk _ => none
  | .rt r => a r
def mapO (f : α → Option β) : List α → Option (List β)
  | [] => some []
  | x :: xs => (f x).bind fun y => (mapO f xs).map (y :: ·)
def compO (f : α → Option β) (xs : List α) : Option (List β) := if xs.length ≤ 1000000 then mapO f xs else none
def compT (f : α → β) (xs : List α) : Option (List β) := if xs.length ≤ 1000000 then some (xs.map f) else none
def compOF (p : α → Bool) (f : α → Option β) (xs : List α) : Option (List β) := if xs.length ≤ 1000000 then mapO f (xs.filter p) else none
def compTF (p : α → Bool) (f : α → β) (xs : List α) : Option (List β) := if xs.length ≤ 1000000 then some ((xs.filter p).map f) else none
def mulN (a b : Int) : Option Int := if mulOk a b = true then some (a * b) else none
def modN (a b : Int) : Option Int := if modOk a b = true then some (a % b) else none
def catS (a b : Nm) : Option Nm := if a.length + b.length ≤ 16777216 then some (a ++ b) else none
def repN (a : Nm) (n : Int) : Option Nm := if -1000000000 < n ∧ n < 1000000000 ∧ a.length * n.toNat ≤ 16777216 then some (List.replicate n.toNat a).flatten else none
def ixS (l : Nm) (i : Int) : Option Nm := if l.length ≤ 16777216 then (atI l i).map fun c => [c] else none
def cutN (l : Nm) (lo hi : Option Int) : Option Nm := if l.length ≤ 16777216 then some (cutA l lo hi) else none
def push (xs : List α) (x : α) : Option (List α) := if xs.length < 16000000 then some (xs ++ [x]) else none
def catL (xs ys : List α) : Option (List α) := if xs.length + ys.length ≤ 16777216 then some (xs ++ ys) else none
def extL (xs ys : List α) : Option (List α) := if xs.length + ys.length < 16000000 then some (xs ++ ys) else none
def putI (xs : List α) (i : Int) (x : α) : Option (List α) := (ixN xs.length i).map fun k => xs.set k x
def rngN (lo : Int) (n : Nat) : List Int := (List.range n).map fun (k : Nat) => lo + (k : Int)
def rng1 (b : Int) : Option (List Int) := if b < 4611686018427387904 ∧ -4611686018427387904 ≤ b then some (rngN 0 b.toNat) else none
def rng2 (a b : Int) : Option (List Int) := if (a < 4611686018427387904 ∧ -4611686018427387904 ≤ a) ∧ (b < 4611686018427387904 ∧ -4611686018427387904 ≤ b) then some (rngN a (b - a).toNat) else none
def enumN : Nat → List α → List (Int × α)
  | _, [] => []
  | i, x :: xs => ((i : Int), x) :: enumN (i + 1) xs
def lkN [DecidableEq β] (kv : List (β × α)) (k : β) : Option α := (kv.find? fun p => decide (p.1 = k)).map (·.2)
def putN [DecidableEq β] (kv : List (β × α)) (k : β) (x : α) : List (β × α) := if (kv.any fun p => decide (p.1 = k)) = true then kv.map (fun p => if p.1 = k then (p.1, x) else p) else kv ++ [(k, x)]
def putK [DecidableEq β] (kv : List (β × α)) (k : β) (x : α) : Option (List (β × α)) := if kv.length < 16000000 then some (putN kv k x) else none
def mkK [DecidableEq β] (ps : List (β × α)) : List (β × α) := ps.foldl (fun acc p => putN acc p.1 p.2) []
end
def Wp (o : Option (Fl × Env)) (Q : Fl → Env → Prop) : Prop := ∃ fl e, o = some (fl, e) ∧ Q fl e
section
variable {env e e1 e2 e3 : Env} {f fa fb fc : EF} {ra : AF} {c c2 : CF} {A B X Y F : SF} {G : GF} {Q : Fl → Env → Prop} {t u : T} {d a b : D} {it : IF} {ds es : List D} {α β σ ρ : Type}
theorem w_nx (h : Q .nx env) : Wp (sNx env) Q := ⟨_, _, rfl, h⟩
theorem w_ret (h : f env = some (t, e)) (q : Q (.rt t) e) : Wp (sRet f env) Q := ⟨_, _, by rw [sRet_q, h]; rfl, q⟩
theorem w_seq (h : A env = some (.nx, e1)) (k : Wp (B e1) Q) : Wp (sSeq A B env) Q := by
  obtain ⟨fl, e, h1, h2⟩ := k
  exact ⟨fl, e, by rw [sSeq_q, h, bindS, kSeq_n, h1], h2⟩
theorem seq_assoc : sSeq (sSeq A B) F env = sSeq A (sSeq B F) env := by
  rw [sSeq_q, sSeq_q, sSeq_q]
  cases A env with
  | none => rfl
  | some r =>
    obtain ⟨fl, e⟩ := r
    cases fl <;> rfl
theorem seq_one : sSeq A sNx env = A env := by
  rw [sSeq_q]
  cases A env with
  | none => rfl
  | some r =>
    obtain ⟨fl, e⟩ := r
    cases fl <;> rfl
theorem w_assoc (k : Wp (sSeq A (sSeq B F) env) Q) : Wp (sSeq (sSeq A B) F env) Q := by unfold Wp at *; rw [seq_assoc]; exact k
theorem w_one (k : Wp (sSeq A sNx env) Q) : Wp (A env) Q := by unfold Wp at *; rw [seq_one] at k; exact k
theorem w_snx (k : Wp (B env) Q) : Wp (sSeq sNx B env) Q := k
theorem w_sct (h : Q .ct env) : Wp (sSeq sCt B env) Q := ⟨_, _, rfl, h⟩
theorem w_sbk (h : Q .bk env) : Wp (sSeq sBk B env) Q := ⟨_, _, rfl, h⟩
theorem w_sret (h : f env = some (t, e)) (q : Q (.rt t) e) : Wp (sSeq (sRet f) B env) Q := ⟨.rt t, e, by rw [sSeq_q, sRet_q, h]; rfl, q⟩
theorem w_if {τ : Type} {n1 n2 : Option τ} {r : τ} {v : Bool} (hc : c env = some (v, e)) (h : (if v = true then n1 else n2) = some r) (ht : v = true → n1 = some r → Wp (sSeq X B e) Q) (hf : v = false → n2 = some r → Wp (sSeq Y B e) Q) : Wp (sSeq (sIf c X Y) B env) Q := by
  have hs : sIf c X Y env = if v = true then X e else Y e := by rw [sIf_q, hc]; rfl
  have go : ∀ Z : SF, Wp (sSeq Z B e) Q → sIf c X Y env = Z e → Wp (sSeq (sIf c X Y) B env) Q := fun Z hz he => by
    obtain ⟨fl, e', h1, h2⟩ := hz
    exact ⟨fl, e', by rw [sSeq_q, he, ← sSeq_q, h1], h2⟩
  cases v with
  | true => exact go X (ht rfl h) hs
  | false => exact go Y (hf rfl h) hs
theorem w_join {P : Env → Prop} (h1 : Wp (A env) fun fl e => fl = .nx ∧ P e) (h2 : ∀ e, P e → Wp (B e) Q) : Wp (sSeq A B env) Q := by
  obtain ⟨fl, e, h, rfl, p⟩ := h1
  exact w_seq h (h2 e p)
theorem w_set {i : Nat} (h : f env = some (t, e)) (hi : i < e.length) : sSet i f env = some (.nx, e.set i (some t)) := by
  rw [sSet_q, h, bindS, kSet_q, if_pos hi]
theorem w_drop (h : f env = some (t, e)) : sDrop f env = some (.nx, e) := by rw [sDrop_q, h]; rfl
theorem w_for {P : Env → Prop} (hi : it env = some (ds, e1)) (hl : ∃ e2, loopD G F ds e1 = some (.nx, e2) ∧ P e2) (k : ∀ e, P e → Wp (B e) Q) : Wp (sSeq (sFor it G F) B env) Q := by
  obtain ⟨e2, h, p⟩ := hl
  exact w_seq (by rw [sFor_q, hi, bindS, kFor_q, h]) (k e2 p)
theorem w_forB {τ : Type} {R : σ → Env → Prop} {ET : ρ → T} {o : Lp σ ρ} {k : σ → Option τ} {w : ρ → Option τ} {r : τ} (hi : it env = some (ds, e1))
    (hl : ∃ fl e2, loopD G F ds e1 = some (fl, e2) ∧ (match o with | .nx s => fl = .nx ∧ R s e2 | .rt r => fl = .rt (ET r) | .bk _ => False))
    (h : lpK k w o = some r) (hk : ∀ s e, R s e → k s = some r → Wp (B e) Q) (hw : ∀ v e, w v = some r → Q (.rt (ET v)) e) : Wp (sSeq (sFor it G F) B env) Q := by
  obtain ⟨fl, e2, h1, p⟩ := hl
  cases o with
  | nx s =>
    obtain ⟨rfl, p⟩ := p
    exact w_seq (by rw [sFor_q, hi, bindS, kFor_q, h1]) (hk s e2 p h)
  | rt v =>
    have p : fl = .rt (ET v) := p
    subst p
    exact ⟨.rt (ET v), e2, by rw [sSeq_q, sFor_q, hi, bindS, kFor_q, h1]; rfl, hw v e2 h⟩
  | bk s => exact p.elim
theorem loop_fold (R : σ → Env → Prop) {dd : α → D} {fn : α → σ → Option σ} (hb : ∀ x s s' env, R s env → fn x s = some s' → ∃ e1, G (.p (dd x)) env = some e1 ∧ Wp (F e1) fun fl e => (fl = .nx ∨ fl = .ct) ∧ R s' e) :
    ∀ (xs : List α) (s s' : σ) (env : Env), R s env → fold fn xs s = some s' → ∃ e2, loopD G F (xs.map dd) env = some (.nx, e2) ∧ R s' e2
  | [], s, s', env, hr, h => by cases h; exact ⟨env, rfl, hr⟩
  | x :: xs, s, s', env, hr, h => by
    obtain ⟨s1, h1, h2⟩ := obind h
    obtain ⟨e1, g1, fl, e2, g2, g3, g4⟩ := hb x s s1 env hr h1
    obtain ⟨e3, g5, g6⟩ := loop_fold R hb xs s1 s' e2 g4 h2
    refine ⟨e3, ?_, g6⟩
    rw [List.map_cons, loop_c, g1, bindS, kLp1_q, g2, bindS]
    rcases g3 with rfl | rfl
    · rw [kLp2_n, g5]
    · rw [kLp2_c, g5]
def QB (R : σ → Env → Prop) (ET : ρ → T) : Lp σ ρ → Fl → Env → Prop
  | .nx s => fun fl e => (fl = .nx ∨ fl = .ct) ∧ R s e
  | .bk s => fun fl e => fl = .bk ∧ R s e
  | .rt r => fun fl _ => fl = .rt (ET r)
theorem loop_foldB (R : σ → Env → Prop) (ET : ρ → T) {dd : α → D} {fn : α → σ → Option (Lp σ ρ)} (hb : ∀ x s o env, R s env → fn x s = some o → ∃ e1, G (.p (dd x)) env = some e1 ∧ Wp (F e1) (QB R ET o)) :
    ∀ (xs : List α) (s : σ) (o : Lp σ ρ) (env : Env), R s env → foldB fn xs s = some o → ∃ fl e2, loopD G F (xs.map dd) env = some (fl, e2) ∧ (match o with | .nx s => fl = .nx ∧ R s e2 | .rt r => fl = .rt (ET r) | .bk _ => False)
  | [], s, o, env, hr, h => by cases h; exact ⟨_, env, rfl, rfl, hr⟩
  | x :: xs, s, o, env, hr, h => by
    obtain ⟨p, h1, h2⟩ := obind h
    obtain ⟨e1, g1, fl, e2, g2, g3⟩ := hb x s p env hr h1
    cases p with
    | nx s1 =>
      obtain ⟨g3, g4⟩ := g3
      obtain ⟨fl3, e3, g5, g6⟩ := loop_foldB R ET hb xs s1 o e2 g4 h2
      refine ⟨fl3, e3, ?_, g6⟩
      rw [List.map_cons, loop_c, g1, bindS, kLp1_q, g2, bindS]
      rcases g3 with rfl | rfl
      · rw [kLp2_n, g5]
      · rw [kLp2_c, g5]
    | bk s1 =>
      obtain ⟨rfl, g4⟩ := g3
      cases h2
      exact ⟨_, e2, by rw [List.map_cons, loop_c, g1, bindS, kLp1_q, g2, bindS, kLp2_b], rfl, g4⟩
    | rt r =>
      have g3 : fl = .rt (ET r) := g3
      subst g3
      cases h2
      exact ⟨_, e2, by rw [List.map_cons, loop_c, g1, bindS, kLp1_q, g2, bindS, kLp2_r], rfl⟩
theorem runF_wp {n k : Nat} {xs : List D} {t : T} (hk : xs.length = k) (h : Wp (F (startE n xs)) fun fl _ => fl = .rt t ∨ (fl = .nx ∧ t = .p .non)) : runF n k F xs = some t := by
  obtain ⟨fl, e, h1, h2⟩ := h
  unfold runF
  rw [if_pos hk, h1]
  rcases h2 with rfl | ⟨rfl, rfl⟩ <;> rfl
theorem bnd {τ υ : Type} {o : Option τ} {k : τ → Option υ} {r : υ} {P : Prop} (h : o.bind k = some r) (g : ∀ v, o = some v → k v = some r → P) : P := by
  obtain ⟨v, h1, h2⟩ := obind h
  exact g v h1 h2
end
end DL
namespace DL
open PySem PySem.Spec PyProof.Rows L2
section
variable {env e e1 e2 e3 w : Env} {f fa fb fc fi fo fk fx : EF} {ra : AF} {c c2 test : CF} {G : GF} {it : IF} {t u v : T} {ts us : List T} {d x y z : D} {ds es : List D} {i j k n : Nat} {a b m : Int} {p q : Nm} {α β κ : Type}
theorem e_v (h : env[i]? = some (some (.p d))) : eV i env = some (.p d, env) := by rw [eV_q, h]; rfl
theorem e_vl {xs : List T} (h : env[i]? = some (some (.lst xs))) (hd : (T.lst xs).toD = d) : eV i env = some (.p d, env.set i (some (.p d))) := by rw [eV_q, h, ← hd]; rfl
theorem e_m (h : env[i]? = some (some t)) : eM i env = some (t, env.set i none) := by rw [eM_q, h]; rfl
theorem e_b (h : env[i]? = some (some t)) : eB i env = some (t, env) := by rw [eB_q, h]; rfl
theorem e_c : eC d env = some (.p d, env) := rfl
theorem e_s (s : String) : eC (.str (PySem.Str.ofString s)) env = some (.p (eS (cod s)), env) := by rw [ofS]; rfl
theorem e_w (h : f env = some (.p d, e)) : eW f env = some (.p d, e) := by rw [eW_q, h]; rfl
theorem e_fz (h : f env = some (t, e)) (hd : t.toD = d) : eFz f env = some (.p d, e) := by rw [eFz_q, h, ← hd]; rfl
theorem a_n : aN env = some ([], env) := rfl
theorem a_c (h : f env = some (t, e1)) (hr : ra e1 = some (ts, e2)) : aC f ra env = some (t :: ts, e2) := by rw [aC_q, h, bindS, kAC_q, hr]; rfl
theorem e_l (h : ra env = some (ts, e)) (hl : Nat.ble ts.length 1000 = true) (ht : T.lst ts = t) : eL ra env = some (t, e) := by rw [eL_q, h, bindS, kL_q, if_pos (Nat.le_of_ble_eq_true hl), ht]
theorem e_t (h : ra env = some (ts, e)) (hl : Nat.ble ts.length 1000 = true) (ht : mkTup ts = t) : eT ra env = some (t, e) := by rw [eT_q, h, bindS, kT_q, if_pos (Nat.le_of_ble_eq_true hl), ht]
theorem e_op {g : D → D → Option D} (h1 : fa env = some (.p x, e1)) (h2 : fb e1 = some (.p y, e2)) (hg : g x y = some z) : eOp g fa fb env = some (.p z, e2) := by rw [eOp_q, h1, bindS, kOp1_q, h2, bindS, kOp2_q, hg]; rfl
theorem e_cmp {g : D → D → Option Bool} {r : Bool} (h1 : fa env = some (t, e1)) (h2 : fb e1 = some (u, e2)) (d1 : t.toD = x) (d2 : u.toD = y) (hg : g x y = some r) : eCmp g fa fb env = some (.p (.bl r), e2) := by rw [eCmp_q, h1, bindS, kCm1_q, h2, bindS, kCm2_q, d1, d2, hg]; rfl
theorem g_mul (h : mulN a b = some m) : gMul (.int a) (.int b) = some (.int m) := by
  unfold mulN at h
  split at h
  · rename_i c; cases h; exact if_pos c
  · cases h
theorem g_mod (h : modN a b = some m) : gMod (.int a) (.int b) = some (.int m) := by
  unfold modN at h
  split at h
  · rename_i c; cases h; exact if_pos c
  · cases h
def litM (b : Int) : Bool := decide (-18446744073709551616 < b ∧ b < 18446744073709551616)
theorem g_mulR (h : litM b = true) : gMul (.int a) (.int b) = some (.int (a * b)) := gMul_r (of_decide_eq_true h).1 (of_decide_eq_true h).2
theorem g_mulL (h : litM a = true) : gMul (.int a) (.int b) = some (.int (a * b)) := gMul_l (of_decide_eq_true h).1 (of_decide_eq_true h).2
theorem g_divR (h : decide (0 < b ∧ b < 1606938044258990275541962092341162602522202993782792835301376) = true) : gDiv (.int a) (.int b) = some (.int (a / b)) := gDiv_i (of_decide_eq_true h).1 (of_decide_eq_true h).2
theorem g_modR (h : decide (0 < b) = true) : gMod (.int a) (.int b) = some (.int (a % b)) := gMod_i (of_decide_eq_true h)
theorem g_powR (h : decide (0 ≤ b ∧ b ≤ 1000 ∧ 0 ≤ a ∧ a < 18446744073709551616) = true) : gPow (.int a) (.int b) = some (.int (a ^ b.toNat)) := gPow_i (of_decide_eq_true h).1 (of_decide_eq_true h).2.1 (of_decide_eq_true h).2.2.1 (of_decide_eq_true h).2.2.2
theorem g_rep (h : repN p a = some q) : gMulA (eS p) (.int a) = some (eS q) := by
  unfold repN at h
  split at h
  · rename_i c; cases h; exact gMulA_g c.1 c.2.1 c.2.2
  · cases h
theorem g_ne {r : Bool} (h : eqQ x y = some r) : neQ x y = some (!r) := by unfold neQ; rw [h]; rfl
theorem c_t {r : Bool} (h : f env = some (.p (.bl r), e)) : cT f env = some (r, e) := by rw [cT_q, h]; rfl
theorem c_not {r : Bool} (h : c env = some (r, e)) : cNot c env = some (!r, e) := by rw [cNot_q, h]; rfl
theorem c_and {r s : Bool} (h : c env = some (r, e)) (h2 : c2 e = some (s, e)) : cAnd c c2 env = some (r && s, e) := by
  rw [cAnd_q, h, bindS]; cases r
  · rfl
  · exact h2
theorem c_or {r s : Bool} (h : c env = some (r, e)) (h2 : c2 e = some (s, e)) : cOr c c2 env = some (r || s, e) := by
  rw [cOr_q, h, bindS]; cases r
  · exact h2
  · rfl
theorem c_andO {r s : Bool} {o : Option Bool} (h : c env = some (r, e)) (ho : (if r = true then o else some false) = some s) (h2 : r = true → o = some s → c2 e = some (s, e)) : cAnd c c2 env = some (s, e) := by
  rw [cAnd_q, h, bindS]; cases r
  · cases ho; rfl
  · exact h2 rfl ho
theorem c_orO {r s : Bool} {o : Option Bool} (h : c env = some (r, e)) (ho : (if r = true then some true else o) = some s) (h2 : r = false → o = some s → c2 e = some (s, e)) : cOr c c2 env = some (s, e) := by
  rw [cOr_q, h, bindS]; cases r
  · exact h2 rfl ho
  · cases ho; rfl
theorem e_andO {r s : Bool} {o : Option Bool} (h : fa env = some (.p (.bl r), e)) (ho : (if r = true then o else some false) = some s) (h2 : r = true → o = some s → fb e = some (.p (.bl s), e)) : eAnd fa fb env = some (.p (.bl s), e) := by
  rw [eAnd_q, c_t h, bindS]; cases r
  · cases ho; rfl
  · exact h2 rfl ho
theorem e_b1 {g : T → Option D} (h : f env = some (t, e)) (hg : g t = some d) : eB1 g f env = some (.p d, e) := by rw [eB1_q, h, bindS, kB1_q, hg]; rfl
theorem g_lenL (xs : List α) (dd : α → D) : gLen (.p (.lst (xs.map dd))) = some (.int (xs.length : Int)) := by rw [gLen_p, List.length_map]
theorem g_lenO (xs : List α) (dd : α → D) : gLen (oL dd xs) = some (.int (xs.length : Int)) := by rw [gLen_l, List.length_map, List.length_map]
theorem g_sumO (xs : List Int) : gSum (oL D.int xs) = some (.int xs.sum) := gSum_l
theorem e_list (h : f env = some (t, e)) (hi : itemsT t = some ds) (hd : ds.map T.p = ts) : eList f env = some (.lst ts, e) := by rw [eList_q, h, bindS, kList_q, hi, ← hd]; rfl
theorem it_p (xs : List α) (dd : α → D) : itemsT (.p (.lst (xs.map dd))) = some (xs.map dd) := rfl
theorem it_o (xs : List α) (dd : α → D) : itemsT (oL dd xs) = some (xs.map dd) := itemsT_l
theorem e_call {φ : List D → Option T} (h : ra env = some (ts, e)) (hp : allP ts = some ds) (hc : φ ds = some t) : eCall φ ra env = some (t, e) := by rw [eCall_q, h, bindS, kCall_q, hp, bindS, kCall2_q, hc]; rfl
theorem e_callB {φ : List D → Option T} (h : ra env = some (ts, e)) (hp : T.toDs ts = ds) (hc : φ ds = some t) (hk : cleanT t = true) : eCallB φ ra env = some (t, e) := by rw [eCallB_q, h, bindS, kCallB_q, hp, hc, bindS, kCl_q, if_pos hk]
theorem e_ix (h1 : fa env = some (t, e1)) (h2 : fi e1 = some (.p (.int a), e2)) (h : ixT t a = some u) : eIx fa fi env = some (u, e2) := by rw [eIx_q, h1, bindS, kIx1_q, h2, bindS, kIx2_q, h]; rfl
theorem x_l {xs : List α} {dd : α → D} {x : α} (h : atI xs a = some x) : ixT (.p (.lst (xs.map dd))) a = some (.p (dd x)) := by rw [ixT_pl, atI_map, h]; rfl
theorem x_o {xs : List α} {dd : α → D} {x : α} (h : atI xs a = some x) : ixT (oL dd xs) a = some (.p (dd x)) := by rw [ixT_lst, atI_map, atI_map, h]; rfl
theorem x_s (h : ixS p a = some q) : ixT (.p (eS p)) a = some (.p (eS q)) := by
  unfold ixS at h
  split at h
  · rename_i c
    obtain ⟨z, h1, rfl⟩ := omap h
    rw [ixT_sg c, h1]; rfl
  · cases h
theorem x_t (n : Nat) (h : ds[n]? = some d) : ixT (.p (.tup ds)) (n : Int) = some (.p d) := by
  rw [ixT_pt]
  have : atI ds (n : Int) = some d := atI_nat h
  rw [this]; rfl
def ixD (d : D) (i : Int) : Option D := match ixT (.p d) i with
  | some (.p x) => some x
  | _ => none
theorem x_d (h : ixD d a = some x) : ixT (.p d) a = some (.p x) := by
  unfold ixD at h
  split at h
  · rename_i y e; cases h; exact e
  · cases h
theorem o_s (h : f env = some (.p (.int a), e)) : oS f env = some (some a, e) := by rw [oS_q, h]; rfl
theorem e_sl {lo hi : OF} {l r : Option Int} (h1 : fa env = some (t, e1)) (h2 : lo e1 = some (l, e2)) (h3 : hi e2 = some (r, e3)) (h : cutT t l r = some u) : eSl fa lo hi env = some (u, e3) := by rw [eSl_q, h1, bindS, kSl1_q, h2, bindS, kSl2_q, h3, bindS, kSl3_q, h]; rfl
theorem s_l {xs : List α} {dd : α → D} {l r : Option Int} : cutT (.p (.lst (xs.map dd))) l r = some (oL dd (cutA xs l r)) := by rw [cutT_p, cutD_map]
theorem e_cat {xs ys zs : List α} {dd : α → D} (h1 : fa env = some (t, e1)) (h2 : fb e1 = some (u, e2)) (i1 : itemsT t = some (xs.map dd)) (i2 : itemsT u = some (ys.map dd)) (l1 : isLT t = true) (l2 : isLT u = true) (h : catL xs ys = some zs) : eCat fa fb env = some (oL dd zs, e2) := by
  unfold catL at h
  split at h
  · rename_i c
    cases h
    unfold eCat
    rw [h1]
    show (fb e1).bind _ = _
    rw [h2]
    show (itemsT t).bind _ = _
    rw [i1]
    show (itemsT u).bind _ = _
    rw [i2]
    show (if isLT t = true ∧ isLT u = true ∧ (xs.map dd).length + (ys.map dd).length ≤ 16777216 then _ else _) = _
    rw [if_pos ⟨l1, l2, by rw [List.length_map, List.length_map]; exact c⟩]
    simp only [oL, List.map_append]
  · cases h
theorem i_l (h : f env = some (.p (.lst ds), e)) : iL f env = some (ds, e) := by rw [iL_q, h]; rfl
theorem rngD_N (lo : Int) (n : Nat) : rngD lo n = (rngN lo n).map D.int := by unfold rngD rngN; rw [List.map_map]; rfl
theorem i_r1 {xs : List Int} (h : ra env = some ([.p (.int a)], e)) (hx : rng1 a = some xs) : iR1 ra env = some (xs.map D.int, e) := by
  unfold rng1 at hx
  split at hx
  · rename_i c; cases hx; rw [iR1_q, h, bindS, kR1_q c.2 c.1, rngD_N]
  · cases hx
theorem i_r2 {xs : List Int} (h : ra env = some ([.p (.int a), .p (.int b)], e)) (hx : rng2 a b = some xs) : iR2 ra env = some (xs.map D.int, e) := by
  unfold rng2 at hx
  split at hx
  · rename_i c; cases hx; rw [iR2_q, h, bindS, kR2_q c.1.2 c.1.1 c.2.2 c.2.1, rngD_N]
  · cases hx
theorem enumD_N {dd : α → D} : ∀ (k : Nat) (xs : List α), enumD k (xs.map dd) = (enumN k xs).map (eT2 D.int dd)
  | _, [] => rfl
  | k, x :: xs => by rw [List.map_cons, enumD, enumD_N (k + 1) xs]; rfl
theorem i_en {xs : List α} {dd : α → D} (h : ra env = some ([.p (.lst (xs.map dd))], e)) : iEn ra env = some ((enumN 0 xs).map (eT2 D.int dd), e) := by rw [iEn_q, h, bindS, kEn_q, enumD_N]
theorem comp_go {own : List Nat} {elt : EF} {dd : α → D} {E : β → T} {p : α → Bool} {fn : α → Option β}
    (hb : ∀ x, ∃ e1, G (.p (dd x)) w = some e1 ∧ ∃ e2, test e1 = some (p x, e2) ∧ (p x = false → wipeE e2 own = w) ∧ ∀ y, p x = true → fn x = some y → ∃ e3, elt e2 = some (E y, e3) ∧ wipeE e3 own = w) :
    ∀ (xs : List α) (ys : List β), mapO fn (xs.filter p) = some ys → compD own G test elt (xs.map dd) w = some (ys.map E, w)
  | [], ys, h => by cases h; rfl
  | x :: xs, ys, h => by
    obtain ⟨e1, h1, e2, h2, h3, h4⟩ := hb x
    rw [List.map_cons, comp_c, h1, bindS, kCp1_q, h2, bindS]
    cases hp : p x with
    | false =>
      rw [List.filter_cons_of_neg (by rw [hp]; simp)] at h
      rw [kCp2_f, h3 hp]
      exact comp_go hb xs ys h
    | true =>
      rw [List.filter_cons_of_pos hp] at h
      obtain ⟨y, k1, k2⟩ := obind h
      obtain ⟨zs, k3, rfl⟩ := omap k2
      obtain ⟨e3, h5, h6⟩ := h4 y hp k1
      rw [kCp2_t, h5, bindS, kCp3_q, h6, comp_go hb xs zs k3, mapS, kCp4_q]; rfl
theorem mapO_some (g : α → β) : ∀ xs : List α, mapO (fun x => some (g x)) xs = some (xs.map g)
  | [] => rfl
  | x :: xs => by show ((mapO (fun x => some (g x)) xs).map (g x :: ·)) = _; rw [mapO_some g xs]; rfl
theorem e_comp {own : List Nat} {elt : EF} {dd : α → D} {E : β → T} {p : α → Bool} {fn : α → Option β} {xs : List α} {ys : List β} (hi : it env = some (xs.map dd, e)) (hw : wipeE e own = w) (h : compOF p fn xs = some ys)
    (hb : ∀ x, ∃ e1, G (.p (dd x)) w = some e1 ∧ ∃ e2, test e1 = some (p x, e2) ∧ (p x = false → wipeE e2 own = w) ∧ ∀ y, p x = true → fn x = some y → ∃ e3, elt e2 = some (E y, e3) ∧ wipeE e3 own = w) :
    eComp own it G test elt env = some (oE E ys, w) := by
  unfold compOF at h
  split at h
  · rename_i c
    rw [eComp_q, hi, bindS, kComp_q, if_pos (by rw [List.length_map]; exact c), hw, comp_go hb xs ys h]; rfl
  · cases h
theorem compO_F (fn : α → Option β) (xs : List α) : compO fn xs = compOF (fun _ => true) fn xs := by
  unfold compO compOF
  rw [List.filter_eq_self.mpr fun _ _ => rfl]
theorem compTF_F (p : α → Bool) (g : α → β) (xs : List α) : compTF p g xs = compOF p (fun x => some (g x)) xs := by
  unfold compTF compOF
  rw [mapO_some]
theorem compT_F (g : α → β) (xs : List α) : compT g xs = compOF (fun _ => true) (fun x => some (g x)) xs := by
  unfold compT compOF
  rw [mapO_some, List.filter_eq_self.mpr fun _ _ => rfl]
theorem oE_p (e : α → D) (xs : List α) : oE (pE e) xs = oL e xs := by show T.lst _ = T.lst _; rw [List.map_map]; rfl
end
end DL
namespace DL
open PySem PySem.Spec PyProof.Rows L2
section
variable {env e e1 e2 e3 w : Env} {f fa fb fc fi fo fk fx : EF} {ra : AF} {c c2 test : CF} {G : GF} {it : IF} {A B F : SF} {Q : Fl → Env → Prop} {t u v : T} {ts us : List T} {d x y z : D} {ds es : List D} {i j k n : Nat} {a b m : Int} {p q : Nm} {α β κ σ ρ : Type}
theorem w_app {xs : List T} {ys : List T} (h0 : env[i]? = some (some (.lst xs))) (h : f env = some (t, e)) (h1 : e[i]? = some (some (.lst ys))) (hl : ys.length < 16000000) : sApp i f env = some (.nx, e.set i (some (.lst (ys ++ [t])))) := by
  rw [sApp_q, atL_q, h0, kAtL_q, bindS, kApp_q, h, bindS, kApp1_q, atL_q, h1, kAtL_q, bindS, kApp2_q, if_pos hl]
theorem w_appL {xs zs : List α} {dd : α → D} {x : α} (h0 : env[i]? = some (some (oL dd xs))) (h : f env = some (.p (dd x), e)) (h1 : e[i]? = some (some (oL dd xs))) (hp : push xs x = some zs) : sApp i f env = some (.nx, e.set i (some (oL dd zs))) := by
  unfold push at hp
  split at hp
  · rename_i c
    cases hp
    rw [w_app h0 h h1 (by rw [List.length_map, List.length_map]; exact c)]
    simp only [oL, List.map_append, List.map_cons, List.map_nil]
  · cases hp
theorem w_putL {xs zs : List α} {dd : α → D} {x : α} (h : f env = some (.p (dd x), e)) (h0 : e[i]? = some (some (oL dd xs))) (hj : fi e = some (.p (.int a), e1)) (h1 : e1[i]? = some (some (oL dd xs))) (hp : putI xs a x = some zs) : sPut i fi f env = some (.nx, e1.set i (some (oL dd zs))) := by
  obtain ⟨k, h2, rfl⟩ := omap hp
  rw [sPut_q, h, bindS, kPut_q, atL_q, h0, kAtL_q, bindS, kPut1_q, hj, bindS, kPut2_q, asI_q, bindS, kPut3_q, atL_q, h1, kAtL_q, bindS, kPut4_q, List.length_map, List.length_map, h2, mapS, kPutEnd_q]
  simp only [oL, List.map_set]
theorem p_nm (h : env[i]? = some (some t)) : pNm i env = some ([], env) := by unfold pNm; rw [h]
theorem at_nm (h : env[i]? = some (some t)) : atP env i [] = some t := by unfold atP; rw [h]; rfl
theorem put_nm (h : env[i]? = some (some t)) : putP env i [] u = env.set i (some u) := by rw [putP_eq h]; rfl
section
variable [DecidableEq β] {kk : β → Key} {dd : α → D}
theorem val_lk (hk : ∀ a b, kk a = kk b → a = b) : ∀ (kv : List (β × α)) (k : β), valD (kv.map fun p => (kk p.1, dd p.2)) (kk k) = (lkN kv k).map dd
  | [], k => rfl
  | (j, x) :: r, k => by
    rw [List.map_cons, valD_cons, val_lk hk r k]
    unfold lkN
    by_cases c : j = k
    · subst c; simp
    · rw [if_neg fun h => c (hk _ _ h)]
      simp [c]
theorem any_lk (hk : ∀ a b, kk a = kk b → a = b) (kv : List (β × α)) (k : β) : ((kv.map fun p => (kk p.1, dd p.2)).any fun p => decide (p.1 = kk k)) = (kv.any fun p => decide (p.1 = k)) := by
  rw [List.any_map]
  congr 1
  funext p
  show decide (kk p.1 = kk k) = decide (p.1 = k)
  exact decide_eq_decide.mpr ⟨hk _ _, fun h => by rw [h]⟩
theorem put_lk (hk : ∀ a b, kk a = kk b → a = b) (kv : List (β × α)) (k : β) (x : α) : putD (kv.map fun p => (kk p.1, dd p.2)) (kk k) (dd x) = (putN kv k x).map fun p => (kk p.1, dd p.2) := by
  unfold putD putN
  rw [any_lk hk]
  split
  · rw [List.map_map, List.map_map]
    apply List.map_congr_left
    intro p _
    show (if kk p.1 = kk k then _ else _) = _
    by_cases c : p.1 = k
    · rw [if_pos (by rw [c])]; simp [c]
    · rw [if_neg fun h => c (hk _ _ h)]; simp [c]
  · rw [List.map_append]; rfl
theorem mk_lk (hk : ∀ a b, kk a = kk b → a = b) (ps : List (β × α)) : mergeD [] (ps.map fun p => (kk p.1, dd p.2)) = (mkK ps).map fun p => (kk p.1, dd p.2) := by
  unfold mergeD mkK
  have go : ∀ (ps acc : List (β × α)), (ps.map fun p => (kk p.1, dd p.2)).foldl (fun acc kv => putD acc kv.1 kv.2) (acc.map fun p => (kk p.1, dd p.2)) = (ps.foldl (fun acc p => putN acc p.1 p.2) acc).map fun p => (kk p.1, dd p.2) := by
    intro ps
    induction ps with
    | nil => intro acc; rfl
    | cons p ps ih =>
      intro acc
      rw [List.map_cons, List.foldl_cons, List.foldl_cons, put_lk hk, ih]
  exact go ps []
theorem kS_inj : ∀ a b, kS a = kS b → a = b := fun a b h => sg_inj.mp (Sum.inr.inj h)
theorem kI_inj : ∀ a b, kI a = kI b → a = b := fun a b h => Sum.inl.inj h
theorem dic_o (kv : List (β × α)) : dicT (oK kk dd kv) = some (kv.map fun p => (kk p.1, dd p.2)) := dicT_o
theorem e_dn : eDn env = some (oK kk dd [], env) := rfl
theorem e_dix (hk : ∀ a b, kk a = kk b → a = b) {kv : List (β × α)} {k : β} {x : α} (h1 : fo env = some (t, e1)) (hd : dicT t = some (kv.map fun p => (kk p.1, dd p.2))) (h2 : fi e1 = some (u, e2)) (h3 : keyT u = some (kk k)) (h : lkN kv k = some x) : eDix fo fi env = some (.p (dd x), e2) := by
  unfold eDix
  rw [h1]
  show (fi e1).bind _ = _
  rw [h2]
  show (dicT t).bind _ = _
  rw [hd]
  show (keyT u).bind _ = _
  rw [h3]
  show (valD _ _).map _ = _
  rw [val_lk hk, h]; rfl
theorem e_dget (hk : ∀ a b, kk a = kk b → a = b) {kv : List (β × α)} {k : β} {z : α} (h1 : fo env = some (t, e1)) (hd : dicT t = some (kv.map fun p => (kk p.1, dd p.2))) (h2 : fi e1 = some (u, e2)) (h3 : keyT u = some (kk k)) (h4 : fx e2 = some (.p (dd z), e3)) : eDget fo fi fx env = some (.p (dd ((lkN kv k).getD z)), e3) := by
  unfold eDget
  rw [h1]
  show (fi e1).bind _ = _
  rw [h2]
  show (fx e2).bind _ = _
  rw [h4]
  show (dicT t).bind _ = _
  rw [hd]
  show (keyT u).bind _ = _
  rw [h3]
  show some (T.p ((valD _ _).getD _), e3) = _
  rw [val_lk hk]
  cases lkN kv k <;> rfl
theorem e_dictP {da : β → D} (hk : ∀ a b, kk a = kk b → a = b) (hd : ∀ b, keyD (da b) = some (kk b)) {ps : List (β × α)} (h : f env = some (t, e)) (hi : itemsT t = some (ps.map (eT2 da dd))) (hl : isLT t = true) : eDictP f env = some (oK kk dd (mkK ps), e) := by
  have hp : ∀ ps : List (β × α), pairsD (ps.map (eT2 da dd)) = some (ps.map fun p => (kk p.1, dd p.2)) := by
    intro ps
    induction ps with
    | nil => rfl
    | cons p ps ih =>
      rw [List.map_cons]
      show (keyD (da p.1)).bind _ = _
      rw [hd]
      show (pairsD (ps.map (eT2 da dd))).map _ = _
      rw [ih]; rfl
  unfold eDictP
  rw [h]
  show (itemsT t).bind _ = _
  rw [hi]
  show (if isLT t = true then (pairsD _).map _ else none) = _
  rw [if_pos hl, hp]
  show some (T.dic (pairsT (mergeD [] _)), e) = _
  rw [mk_lk hk]
theorem keyS (p : Nm) : keyT (.p (eS p)) = some (kS p) := rfl
theorem keyI (a : Int) : keyT (.p (.int a)) = some (kI a) := rfl
end
end
end DL
namespace DL
open PySem PySem.Spec PyProof.Rows L2
abbrev eD (d : D) : D := d
section
variable {env e e1 : Env} {f : EF} {t : T} {ts : List T} {d : D} {ds : List D} {i : Nat} {α β : Type}
theorem u_p (d : D) : (T.p d).toD = d := rfl
theorem u_n : T.toDs [] = [] := rfl
theorem eD_map (ds : List D) : ds.map T.p = (ds.map eD).map T.p := by rw [show (eD : D → D) = id from rfl, List.map_id]
theorem u_c (h : t.toD = d) (hs : T.toDs ts = ds) : T.toDs (t :: ts) = d :: ds := by show t.toD :: T.toDs ts = _; rw [h, hs]
theorem u_t (hs : T.toDs ts = ds) : (T.tup ts).toD = .tup ds := by show D.tup (T.toDs ts) = _; rw [hs]
theorem u_l (hs : T.toDs ts = ds) : (T.lst ts).toD = .lst ds := by show D.lst (T.toDs ts) = _; rw [hs]
theorem w_set2 {e' : Env} (h : f env = some (t, e)) (hi : Nat.ble (i + 1) e.length = true) (he : e.set i (some t) = e') : sSet i f env = some (.nx, e') := by rw [← he]; exact w_set h (Nat.le_of_ble_eq_true hi)
theorem e_compP {own : List Nat} {w : Env} {G : GF} {test : CF} {it : IF} {elt : EF} {dd : α → D} {E : β → D} {p : α → Bool} {fn : α → Option β} {xs : List α} {ys : List β} (hi : it env = some (xs.map dd, e)) (hw : wipeE e own = w) (h : compOF p fn xs = some ys)
    (hb : ∀ x, ∃ e1, G (.p (dd x)) w = some e1 ∧ ∃ e2, test e1 = some (p x, e2) ∧ (p x = false → wipeE e2 own = w) ∧ ∀ y, p x = true → fn x = some y → ∃ e3, elt e2 = some (.p (E y), e3) ∧ wipeE e3 own = w) :
    eComp own it G test elt env = some (oL E ys, w) := by
  rw [← oE_p]
  exact e_comp (E := pE E) hi hw h hb
end
def joinN (s : Nm) (ls : List Nm) : Option Nm := if (ls.map (·.length)).sum + ls.length * s.length ≤ 16777216 then some (TL.joinL s ls) else none
section
variable {env e e1 e2 w : Env} {f fa fb fo fe : EF} {t u : T} {A : SF} {Q : Fl → Env → Prop} {α β : Type} {p q r : Nm} {a : Int}
theorem w_un (h : Wp (A env) Q) : Wp (sSeq A sNx env) Q := by unfold Wp at *; rw [seq_one]; exact h
theorem ifs {τ : Type} {v : Bool} {n1 n2 : Option τ} {r : τ} {P : Prop} (h : (if v = true then n1 else n2) = some r) (h1 : v = true → n1 = some r → P) (h2 : v = false → n2 = some r → P) : P := by
  cases v with
  | true => exact h1 rfl h
  | false => exact h2 rfl h
def opq (o : Option T) : Option D := match o with
  | some (.p d) => some d
  | _ => none
def asB : D → Option Bool
  | .bl b => some b
  | _ => none
def asN : D → Option Int
  | .int b => some b
  | _ => none
theorem opq_p {o : Option T} {d : D} (h : opq o = some d) : o = some (.p d) := by
  unfold opq at h
  split at h
  · cases h; rfl
  · cases h
def opB (o : Option T) : Option Bool := (opq o).bind asB
theorem opq_B {o : Option T} {b : Bool} (h : opB o = some b) : o = some (.p (.bl b)) := by
  obtain ⟨d, h1, h2⟩ := obind h
  unfold asB at h2
  split at h2
  · cases h2; exact opq_p h1
  · cases h2
def asIntD (d : D) : Option Int := asN d
theorem strs_map : ∀ ls : List Nm, strsD (ls.map eS) = some (ls.map sg)
  | [] => rfl
  | l :: ls => by show (strsD (ls.map eS)).map _ = _; rw [strs_map ls]; rfl
theorem e_join {ls : List Nm} (h1 : fo env = some (.p (eS p), e1)) (h2 : fe e1 = some (t, e2)) (hi : itemsT t = some (ls.map eS)) (h : joinN p ls = some q) : eJoin fo fe env = some (.p (eS q), e2) := by
  unfold joinN at h
  split at h
  · rename_i c
    cases h
    unfold eJoin
    rw [h1]
    show (fe e1).bind _ = _
    rw [h2]
    show (itemsT t).bind _ = _
    rw [hi]
    show (strsD (ls.map eS)).bind _ = _
    rw [strs_map]
    show (if ((ls.map sg).map (·.length)).sum + (ls.map sg).length * (sg p).length ≤ 16777216 then _ else _) = _
    have e1 : (ls.map sg).map (·.length) = ls.map (·.length) := by
      rw [List.map_map]
      apply List.map_congr_left
      intro l _
      exact sg_len l
    rw [e1, List.length_map, sg_len, if_pos c, join_g]
  · cases h
end
section
variable {env e e1 e2 e' : Env} {f fi fk : EF} {t u : T} {i : Nat} {a y : Int} {α β : Type}
theorem w_appL2 {xs zs : List α} {dd : α → D} {x : α} (h0 : env[i]? = some (some (oL dd xs))) (h : f env = some (.p (dd x), e)) (h1 : e[i]? = some (some (oL dd xs))) (hp : push xs x = some zs) (he : e.set i (some (oL dd zs)) = e') : sApp i f env = some (.nx, e') := he ▸ w_appL h0 h h1 hp
theorem w_putL2 {xs zs : List α} {dd : α → D} {x : α} (h : f env = some (.p (dd x), e)) (h0 : e[i]? = some (some (oL dd xs))) (hj : fi e = some (.p (.int a), e1)) (h1 : e1[i]? = some (some (oL dd xs))) (hp : putI xs a x = some zs) (he : e1.set i (some (oL dd zs)) = e') : sPut i fi f env = some (.nx, e') := he ▸ w_putL h h0 hj h1 hp
end
end DL
namespace DL
open PySem PySem.Spec PyProof.Rows L2
section
variable {env e e1 e2 e3 e' : Env} {f fa fb fc fi fo fk fx : EF} {ra : AF} {po : PF} {P : List Stp} {G : GF} {F : SF} {t u v : T} {ts us : List T} {d x y z : D} {ds es : List D} {i j n : Nat} {a b m : Int} {α β κ : Type}
theorem pl_nm (h : env[i]? = some (some t)) : pNm i env = some ([], env) := by unfold pNm; rw [h]
theorem p_it {k : Nat} (h : po env = some (P, e)) (h2 : fk e = some (.p (.int a), e1)) (h3 : atP e1 i P = some (.tup us)) (hk : ixN us.length a = some k) (h4 : us[k]? = some t) : pIx i po fk env = some (P ++ [.it k], e1) := by
  unfold pIx
  rw [h]
  show (fk e).bind _ = _
  rw [h2]
  show (atP e1 i P).bind _ = _
  rw [h3]
  show (ixN us.length a).bind _ = _
  rw [hk]
  show (us[k]?).map _ = _
  rw [h4]; rfl
theorem e_mvP (h : po env = some (P, e)) (h2 : atP e i P = some u) (he : putP e i P (.al 0) = e') : eMvP i po env = some (u, e') := by
  subst he
  rw [eMvP_q, h, bindS, kMvP_q, h2]; rfl
theorem w_apL {xs zs : List α} {dd : α → D} {x : α} (hp : po env = some (P, env)) (h0 : atP env i P = some (oL dd xs)) (h : f env = some (.p (dd x), e)) (h1 : atP e i P = some (oL dd xs)) (hq : push xs x = some zs) (he : putP e i P (oL dd zs) = e') : sAppP i po f env = some (.nx, e') := by
  subst he
  unfold push at hq
  split at hq
  · rename_i c
    cases hq
    unfold sAppP
    rw [hp]
    show (atP env i P).bind _ = _
    rw [h0]
    show (f env).bind _ = _
    rw [h]
    show (atP e i P).bind _ = _
    rw [h1]
    show (if ((xs.map dd).map T.p).length < 16000000 then some (Fl.nx, putP e i P (T.lst ((xs.map dd).map T.p ++ [T.p (dd x)]))) else none) = _
    rw [if_pos (by simpa using c)]
    show _ = some (Fl.nx, putP e i P (T.lst (((xs ++ [x]).map dd).map T.p)))
    rw [List.map_append, List.map_append]; rfl
  · cases hq
theorem w_apLD {xs : List α} {zs : List D} {dd : α → D} {y : D} (hp : po env = some (P, env)) (h0 : atP env i P = some (oL dd xs)) (h : f env = some (.p y, e)) (h1 : atP e i P = some (oL dd xs)) (hq : push (xs.map dd) y = some zs) (he : putP e i P (oL eD zs) = e') : sAppP i po f env = some (.nx, e') := by
  have go : ∀ l : List α, (oL dd l : T) = oL eD (l.map dd) := fun l => by show T.lst ((l.map dd).map T.p) = T.lst (((l.map dd).map eD).map T.p); exact congrArg T.lst (eD_map _)
  exact w_apL (dd := eD) hp (by rw [h0, go]) h (by rw [h1, go]) hq he
theorem pairs_len {kk : β → Key} {dd : α → D} (kv : List (β × α)) : (pairsT (kv.map fun p => (kk p.1, dd p.2))).length = kv.length := by unfold pairsT; rw [List.length_map, List.length_map]
end
end DL
namespace DL
open PySem PySem.Spec PyProof.Rows L2
section
variable {env e e1 e2 e3 e' : Env} {f fa fb fc fi fo fk fx fe : EF} {ra : AF} {po : PF} {P : List Stp} {G : GF} {F : SF} {t t1 t2 u v r : T} {ts us : List T} {d x y z : D} {ds es : List D} {i j n : Nat} {a b m : Int} {α β κ : Type} {nm fn : Str} {fs : List (Str × T)} {kvs : List (Key × T)} {ky : Key}
theorem asI_eq' (h : asIntD d = some a) : d = .int a := by
  unfold asIntD asN at h
  split at h
  · cases h; rfl
  · cases h
theorem e_asI (h : f env = some (.p d, e)) (h2 : asIntD d = some a) : f env = some (.p (.int a), e) := by rw [h, asI_eq' h2]
theorem w_appLD2 {xs : List α} {zs : List D} {dd : α → D} {y : D} (h0 : env[i]? = some (some (oL dd xs))) (h : f env = some (.p y, e)) (h1 : e[i]? = some (some (oL dd xs))) (hq : push (xs.map dd) y = some zs) (he : e.set i (some (oL eD zs)) = e') : sApp i f env = some (.nx, e') := by
  have go : ∀ l : List α, (oL dd l : T) = oL eD (l.map dd) := fun l => by show T.lst ((l.map dd).map T.p) = T.lst (((l.map dd).map eD).map T.p); exact congrArg T.lst (eD_map _)
  exact w_appL2 (dd := eD) (by rw [h0, go]) h (by rw [h1, go]) hq he
theorem e_dk (h : fo env = some (t, e)) (hk : fk e = some (v, e1)) (h3 : keyT v = some ky) (hv : valK ky (unb t) = some u) : eDk fo fk env = some (u, e1) := by
  show (fo env).bind _ = _
  rw [h]
  show (fk e).bind _ = _
  rw [hk]
  show (keyT v).bind _ = _
  rw [h3]
  show (valK ky (unb t)).map _ = _
  rw [hv]; rfl
abbrev oG (kk : β → List Key) (dd : α → D) (kv : List (β × α)) : T := .dit (pairsTt (kv.map fun p => (kk p.1, dd p.2)))
abbrev eG (kk : β → List Key) (dd : α → D) (kv : List (β × α)) : D := .dit (kv.map fun p => (kk p.1, dd p.2))
theorem oG_toD {kk : β → List Key} {dd : α → D} (kv : List (β × α)) : (oG kk dd kv).toD = eG kk dd kv := by
  have go : ∀ l : List (List Key × D), T.toKt (pairsTt l) = l := by
    intro l
    induction l with
    | nil => rfl
    | cons p l ih => show (p.1, p.2) :: T.toKt (pairsTt l) = _; rw [ih]
  show D.dit (T.toKt (pairsTt _)) = _
  rw [go]
theorem dit_o {kk : β → List Key} {dd : α → D} (kv : List (β × α)) : ditT (oG kk dd kv) = some (kv.map fun p => (kk p.1, dd p.2)) := frzT_pairs _
section
variable [DecidableEq β] {kk : β → List Key} {dd : α → D}
theorem val_lkt (hk : ∀ a b, kk a = kk b → a = b) (k : β) : ∀ kv : List (β × α), valDt (kv.map fun p => (kk p.1, dd p.2)) (kk k) = (lkN kv k).map dd
  | [] => rfl
  | (j, x) :: kv => by
    have ih := val_lkt hk k kv
    unfold valDt lkN at ih ⊢
    rw [List.map_cons]
    by_cases c : j = k
    · subst c
      rw [List.find?_cons_of_pos (by simp), List.find?_cons_of_pos (by simp)]; rfl
    · rw [List.find?_cons_of_neg (by simpa using fun z => c (hk _ _ z)), List.find?_cons_of_neg (by simpa using c)]
      exact ih
theorem put_lkt (hk : ∀ a b, kk a = kk b → a = b) (k : β) (x : α) (kv : List (β × α)) : putDt (kv.map fun p => (kk p.1, dd p.2)) (kk k) (dd x) = (putN kv k x).map fun p => (kk p.1, dd p.2) := by
  have hany : ((kv.map fun p => (kk p.1, dd p.2)).any fun q => decide (q.1 = kk k)) = (kv.any fun p => decide (p.1 = k)) := by
    induction kv with
    | nil => rfl
    | cons p kv ih =>
      rw [List.map_cons, List.any_cons, List.any_cons, ih]
      congr 1
      by_cases c : p.1 = k
      · rw [decide_eq_true c, decide_eq_true (by rw [c])]
      · rw [decide_eq_false c, decide_eq_false (fun z => c (hk _ _ z))]
  unfold putDt putN
  rw [hany]
  split
  · rw [List.map_map, List.map_map]
    apply List.map_congr_left
    intro p _
    show (if kk p.1 = kk k then (kk p.1, dd x) else (kk p.1, dd p.2)) = (kk (if p.1 = k then (p.1, x) else p).1, dd (if p.1 = k then (p.1, x) else p).2)
    by_cases c : p.1 = k
    · rw [if_pos (by rw [c]), if_pos c]
    · rw [if_neg (fun z => c (hk _ _ z)), if_neg c]
  · rw [List.map_append]; rfl
theorem e_dixT (hk : ∀ a b, kk a = kk b → a = b) {kv : List (β × α)} {k : β} {x : α} (h1 : fo env = some (t, e1)) (hd : ditT t = some (kv.map fun p => (kk p.1, dd p.2))) (h2 : fi e1 = some (u, e2)) (h3 : keyTT u = some (kk k)) (h : lkN kv k = some x) : eDixT fo fi env = some (.p (dd x), e2) := by
  unfold eDixT
  rw [h1]
  show (fi e1).bind _ = _
  rw [h2]
  show (ditT t).bind _ = _
  rw [hd]
  show (keyTT u).bind _ = _
  rw [h3]
  show (valDt _ _).map _ = _
  rw [val_lkt hk, h]; rfl
theorem e_dgetT (hk : ∀ a b, kk a = kk b → a = b) {kv : List (β × α)} {k : β} {x : α} (h1 : fo env = some (t, e1)) (hd : ditT t = some (kv.map fun p => (kk p.1, dd p.2))) (h2 : fi e1 = some (u, e2)) (h3 : keyTT u = some (kk k)) (h4 : fx e2 = some (.p (dd x), e3)) : eDgetT fo fi fx env = some (.p (dd ((lkN kv k).getD x)), e3) := by
  unfold eDgetT
  rw [h1]
  show (fi e1).bind _ = _
  rw [h2]
  show (fx e2).bind _ = _
  rw [h4]
  show (ditT t).bind _ = _
  rw [hd]
  show (keyTT u).bind _ = _
  rw [h3]
  show some (T.p ((valDt _ _).getD _), e3) = _
  rw [val_lkt hk]
  cases lkN kv k <;> rfl
theorem e_dinT (hk : ∀ a b, kk a = kk b → a = b) {b : Bool} {kv : List (β × α)} {k : β} (h2 : fi env = some (u, e1)) (h1 : fo e1 = some (t, e2)) (hd : ditT t = some (kv.map fun p => (kk p.1, dd p.2))) (h3 : keyTT u = some (kk k)) : eDinT b fi fo env = some (.p (.bl (if b then (lkN kv k).isSome else !(lkN kv k).isSome)), e2) := by
  unfold eDinT
  rw [h2]
  show (fo e1).bind _ = _
  rw [h1]
  show (ditT t).bind _ = _
  rw [hd]
  show (keyTT u).bind _ = _
  rw [h3]
  show some _ = _
  rw [val_lkt hk]
  cases lkN kv k <;> rfl
theorem w_putT (hk : ∀ a b, kk a = kk b → a = b) {kv kv2 : List (β × α)} {k : β} {x : α} (hf : f env = some (.p (dd x), e)) (hp : po e = some (P, e)) (h2 : fk e = some (u, e1)) (h3 : keyTT u = some (kk k)) (h0 : atP e1 i P = some (oG kk dd kv))
    (hq : putK kv k x = some kv2) (he : putP e1 i P (oG kk dd kv2) = e') : sPutT i po fk f env = some (.nx, e') := by
  subst he
  unfold putK at hq
  split at hq
  · rename_i c
    cases hq
    unfold sPutT
    rw [hf]
    show (po e).bind _ = _
    rw [hp]
    show (fk e).bind _ = _
    rw [h2]
    show (keyTT u).bind _ = _
    rw [h3]
    show (atP e1 i P).bind _ = _
    rw [h0]
    show (frzT (pairsTt (kv.map fun p => (kk p.1, dd p.2)))).bind _ = _
    rw [frzT_pairs]
    show (if (kv.map fun p => (kk p.1, dd p.2)).length < 16000000 then _ else _) = _
    rw [if_pos (by rw [List.length_map]; exact c), put_lkt hk]; rfl
  · cases hq
end
theorem e_callM {φ : T → List D → Option (T × T)} (hp : po env = some (P, e)) (ha : ra e = some (us, e1)) (hall : allP us = some ds) (h0 : atP e1 i P = some t) (hc : φ t ds = some (r, t2)) (he : putP e1 i P t2 = e') : eCallM φ i po ra env = some (r, e') := by
  subst he
  unfold eCallM
  rw [hp]
  show (ra e).bind _ = _
  rw [ha]
  show (allP us).bind _ = _
  rw [hall]
  show (atP e1 i P).bind _ = _
  rw [h0]
  show (φ t ds).map _ = _
  rw [hc]; rfl
theorem runM_wp {n k : Nat} {t0 : T} {xs : List D} (hk : xs.length = k) (h : Wp (F (startM n t0 xs)) fun fl e => (fl = .rt r ∨ (fl = .nx ∧ r = .p .non)) ∧ e[0]? = some (some u)) : runM n k F t0 xs = some (r, u) := by
  obtain ⟨fl, e, h1, h2, h3⟩ := h
  unfold runM
  rw [if_pos hk, h1]
  show (match e[0]? with | some (some t') => (match fl with | .rt t => some (t, t') | .nx => some (.p .non, t') | _ => none) | _ => none) = _
  rw [h3]
  rcases h2 with rfl | ⟨rfl, rfl⟩ <;> rfl
end
end DL
namespace DL
open PySem PySem.Spec PyProof.Rows L2
def Ok {α : Type} (o : Option α) (Q : α → Prop) : Prop := ∃ v, o = some v ∧ Q v
section
variable {α β σ ρ κ : Type} {o : Option α} {P Q : α → Prop}
theorem ok_some {v : α} (h : Q v) : Ok (some v) Q := ⟨v, rfl, h⟩
theorem ok_bind {k : α → Option β} {R : β → Prop} (h : Ok o Q) (g : ∀ v, Q v → Ok (k v) R) : Ok (o.bind k) R := by
  obtain ⟨v, rfl, q⟩ := h
  exact g v q
theorem ok_eq {k : α → Option β} {R : β → Prop} {v : α} (h : o = some v) (g : Ok (k v) R) : Ok (o.bind k) R := by subst h; exact g
theorem ok_ite {b : Bool} {x y : Option α} (h1 : b = true → Ok x Q) (h2 : b = false → Ok y Q) : Ok (if b = true then x else y) Q := by
  cases b with
  | true => exact h1 rfl
  | false => exact h2 rfl
theorem ok_dite {p : Prop} [Decidable p] {x y : Option α} (h1 : p → Ok x Q) (h2 : ¬ p → Ok y Q) : Ok (if decide p = true then x else y) Q := by
  by_cases c : p
  · rw [if_pos (decide_eq_true c)]; exact h1 c
  · rw [if_neg (by simp [c])]; exact h2 c
theorem ok_fin {o : Option α} {v : α} (h : Ok o (· = v)) : o = some v := by
  obtain ⟨w, h1, rfl⟩ := h
  exact h1
theorem ok_fold {f : α → σ → Option σ} (I : List α → σ → Prop) : ∀ (xs done : List α) (s : σ), I done s → (∀ pre x post s, done ++ xs = pre ++ x :: post → I pre s → Ok (f x s) (I (pre ++ [x]))) → Ok (fold f xs s) (I (done ++ xs))
  | [], done, s, h0, _ => by rw [List.append_nil]; exact ok_some h0
  | x :: xs, done, s, h0, hs => by
    refine ok_bind (hs done x xs s rfl h0) fun v hv => ?_
    have := ok_fold I xs (done ++ [x]) v hv (fun pre y post s e => hs pre y post s (by rw [← e, List.append_assoc]; rfl))
    rw [List.append_assoc] at this
    exact this
theorem ok_fold0 {f : α → σ → Option σ} (I : List α → σ → Prop) {xs : List α} {s : σ} (h0 : I [] s) (hs : ∀ pre x post s, xs = pre ++ x :: post → I pre s → Ok (f x s) (I (pre ++ [x]))) : Ok (fold f xs s) (I xs) := by
  have := ok_fold I xs [] s h0 hs
  exact this
theorem enumN_len : ∀ (k : Nat) (xs : List α), (enumN k xs).length = xs.length
  | _, [] => rfl
  | k, x :: xs => by rw [enumN, List.length_cons, List.length_cons, enumN_len (k + 1) xs]
theorem enumN_mem : ∀ {k : Nat} {xs : List α} {p : Int × α}, p ∈ enumN k xs → (k : Int) ≤ p.1 ∧ p.1 < (k : Int) + xs.length ∧ p.2 ∈ xs
  | _, [], p, h => by cases h
  | k, x :: xs, p, h => by
    rw [enumN] at h
    rcases List.mem_cons.mp h with rfl | h
    · exact ⟨Int.le_refl _, by rw [List.length_cons]; omega, by simp⟩
    · obtain ⟨h1, h2, h3⟩ := enumN_mem h
      refine ⟨by omega, ?_, by simp [h3]⟩
      rw [List.length_cons]; omega
theorem rngN_len (lo : Int) (n : Nat) : (rngN lo n).length = n := by simp [rngN]
theorem rngN_mem {lo : Int} {n : Nat} {i : Int} (h : i ∈ rngN lo n) : lo ≤ i ∧ i < lo + n := by
  unfold rngN at h
  obtain ⟨k, hk, rfl⟩ := List.mem_map.mp h
  have := List.mem_range.mp hk
  omega
theorem push_eq {xs : List α} {x : α} (h : xs.length < 16000000) : push xs x = some (xs ++ [x]) := if_pos h
theorem catL_eq {xs ys : List α} (h : xs.length + ys.length ≤ 16777216) : catL xs ys = some (xs ++ ys) := if_pos h
theorem extL_eq {xs ys : List α} (h : xs.length + ys.length < 16000000) : extL xs ys = some (xs ++ ys) := if_pos h
theorem compT_eq {f : α → β} {xs : List α} (h : xs.length ≤ 1000000) : compT f xs = some (xs.map f) := if_pos h
theorem compTF_eq {p : α → Bool} {f : α → β} {xs : List α} (h : xs.length ≤ 1000000) : compTF p f xs = some ((xs.filter p).map f) := if_pos h
theorem mapO_eq {f : α → Option β} {g : α → β} : ∀ {xs : List α}, (∀ x ∈ xs, f x = some (g x)) → mapO f xs = some (xs.map g)
  | [], _ => rfl
  | x :: xs, h => by
    show (f x).bind _ = _
    rw [h x (by simp)]
    show (mapO f xs).map _ = _
    rw [mapO_eq fun y hy => h y (by simp [hy])]; rfl
theorem compO_eq {f : α → Option β} {g : α → β} {xs : List α} (hl : xs.length ≤ 1000000) (h : ∀ x ∈ xs, f x = some (g x)) : compO f xs = some (xs.map g) := by unfold compO; rw [if_pos hl, mapO_eq h]
theorem ok_atI {xs : List α} {i : Int} {R : α → Prop} (h0 : 0 ≤ i) (h1 : i < xs.length) (h : ∀ x ∈ xs, R x) : Ok (atI xs i) R := by
  obtain ⟨x, hx, e, _⟩ := atI_in h0 h1
  exact ⟨x, e, h x hx⟩
theorem rng1_eq {b : Int} (h0 : -4611686018427387904 ≤ b) (h1 : b < 4611686018427387904) : rng1 b = some (rngN 0 b.toNat) := if_pos ⟨h1, h0⟩
theorem rng2_eq {a b : Int} (h0 : -4611686018427387904 ≤ a) (h1 : a < 4611686018427387904) (h2 : -4611686018427387904 ≤ b) (h3 : b < 4611686018427387904) : rng2 a b = some (rngN a (b - a).toNat) := if_pos ⟨⟨h1, h0⟩, h3, h2⟩
theorem mulN_l {a b : Int} (h : -18446744073709551616 < a ∧ a < 18446744073709551616) : mulN a b = some (a * b) := if_pos (by unfold mulOk; exact decide_eq_true (.inl h))
theorem mulN_r {a b : Int} (h : -18446744073709551616 < b ∧ b < 18446744073709551616) : mulN a b = some (a * b) := if_pos (by unfold mulOk; exact decide_eq_true (.inr (.inl h)))
theorem modN_eq {a b : Int} (h : 0 < b) : modN a b = some (a % b) := if_pos (by unfold modOk; exact decide_eq_true h)
theorem ok_mod {a b : Int} (h : 0 < b) : Ok (modN a b) fun x => 0 ≤ x ∧ x < b := ⟨_, modN_eq h, Int.emod_nonneg _ (by omega), Int.emod_lt_of_pos _ h⟩
theorem catS_eq {a b : Nm} (h : a.length + b.length ≤ 16777216) : catS a b = some (a ++ b) := if_pos h
theorem bits_small {x : Int} (h0 : 0 ≤ x) (h1 : x < 1606938044258990275541962092341162602522202993782792835301376) : Builtin.Int.intBits x ≤ 1048576 := by
  unfold Builtin.Int.intBits
  by_cases z : x = 0
  · subst z; decide
  · have hb : (x == 0) = false := by simpa using z
    rw [hb]
    have hn : x.natAbs ≠ 0 := by omega
    have : x.natAbs.log2 < 200 := (Nat.log2_lt hn).mpr (by
      have e : (2 : Nat) ^ 200 = 1606938044258990275541962092341162602522202993782792835301376 := by decide
      rw [e]; omega)
    show x.natAbs.log2 + 1 ≤ 1048576
    omega
theorem mulN_b {a b : Int} (h0 : 0 ≤ a) (h1 : a < 1606938044258990275541962092341162602522202993782792835301376) (h2 : 0 ≤ b) (h3 : b < 1606938044258990275541962092341162602522202993782792835301376) : mulN a b = some (a * b) := if_pos (by
  unfold mulOk
  have := bits_small h0 h1
  have := bits_small h2 h3
  exact decide_eq_true (.inr (.inr (by omega))))
variable [DecidableEq κ]
theorem lk_nil (k : κ) : lkN ([] : List (κ × α)) k = none := rfl
theorem lk_cons (j k : κ) (x : α) (r : List (κ × α)) : lkN ((j, x) :: r) k = if j = k then some x else lkN r k := by
  unfold lkN
  by_cases c : j = k
  · subst c; simp
  · simp [c]
theorem lk_app (k : κ) : ∀ (r q : List (κ × α)), lkN (r ++ q) k = (lkN r k).or (lkN q k)
  | [], q => by rw [lk_nil]; rfl
  | (j, x) :: r, q => by
    rw [List.cons_append, lk_cons, lk_cons, lk_app k r q]
    split <;> rfl
theorem lk_any (k : κ) : ∀ r : List (κ × α), (r.any fun p => decide (p.1 = k)) = (lkN r k).isSome
  | [] => rfl
  | (j, x) :: r => by
    rw [List.any_cons, lk_cons, lk_any k r]
    by_cases c : j = k <;> simp [c]
theorem lk_map (k j : κ) (x : α) : ∀ r : List (κ × α), lkN (r.map fun p => if p.1 = j then (p.1, x) else p) k = if k = j then (lkN r k).map (fun _ => x) else lkN r k
  | [] => by rw [List.map_nil, lk_nil]; split <;> rfl
  | (i, y) :: r => by
    rw [List.map_cons]
    by_cases c : i = j
    · subst c
      rw [if_pos rfl, lk_cons, lk_cons, lk_map k i x r]
      by_cases d : i = k
      · subst d; simp
      · have d2 : ¬ k = i := fun e => d e.symm
        simp [d, d2]
    · rw [if_neg c, lk_cons, lk_cons, lk_map k j x r]
      by_cases d : i = k
      · subst d; rw [if_pos rfl, if_pos rfl, if_neg c]
      · rw [if_neg d, if_neg d]
theorem lk_put (kv : List (κ × α)) (j k : κ) (x : α) : lkN (putN kv j x) k = if k = j then some x else lkN kv k := by
  unfold putN
  rw [lk_any]
  cases h : lkN kv j with
  | some y =>
    rw [Option.isSome_some, if_pos rfl, lk_map]
    by_cases c : k = j
    · subst c; rw [if_pos rfl, if_pos rfl, h]; rfl
    · rw [if_neg c, if_neg c]
  | none =>
    rw [Option.isSome_none, if_neg (by simp), lk_app, lk_cons, lk_nil]
    by_cases c : k = j
    · subst c; rw [h, if_pos rfl]; simp
    · rw [if_neg c, if_neg (fun e => c e.symm)]; cases lkN kv k <;> rfl
theorem lk_of {k : κ} {x : α} : ∀ {r : List (κ × α)}, (r.map (·.1)).Nodup → (k, x) ∈ r → lkN r k = some x
  | [], _, h => by cases h
  | (j, y) :: r, hn, h => by
    rw [List.map_cons, List.nodup_cons] at hn
    rw [lk_cons]
    rcases List.mem_cons.mp h with e | h
    · cases e; rw [if_pos rfl]
    · rw [if_neg, lk_of hn.2 h]
      rintro rfl
      exact hn.1 (List.mem_map.mpr ⟨_, h, rfl⟩)
theorem lkN_none {k : κ} : ∀ {r : List (κ × α)}, k ∉ r.map (·.1) → lkN r k = none
  | [], _ => rfl
  | (j, y) :: r, h => by
    rw [List.map_cons, List.mem_cons] at h
    rw [lk_cons, if_neg (fun e => h (.inl e.symm)), lkN_none fun e => h (.inr e)]
end
end DL
set_option maxHeartbeats 4000000
namespace LQ
open PySem PySem.Spec PyProof.Rows L2 DL 
end LQ
set_option maxHeartbeats 1000000
namespace LQ
open PySem PySem.Spec PyProof.Rows L2 DL
mutual
def pOk : Nat → D → Bool
  | _, .int _ => true
  | _, .str _ => true
  | n + 1, .lst ds => decide (ds.length ≤ 1000000) && pOks n ds
  | n + 1, .tup ds => decide (ds.length ≤ 1000000) && pOks n ds
  | _, _ => false
def pOks : Nat → List D → Bool
  | _, [] => true
  | n, d :: ds => pOk n d && pOks n ds
end
theorem k1 : kitB "int" "list" = some false := by decide +kernel
theorem k2 : kitB "int" "tuple" = some false := by decide +kernel
theorem k3 : kitB "str" "list" = some false := by decide +kernel
theorem k4 : kitB "str" "tuple" = some false := by decide +kernel
theorem pOk_int {n : Nat} {i : Int} : pOk n (.int i) = true := by unfold pOk; rfl
end LQ
namespace DL
open PySem PySem.Spec PyProof.Rows L2
mutual
theorem dOk_up : ∀ {n : Nat} {d : D}, dOk n d = true → ∀ m, n ≤ m → dOk m d = true
  | _, .non, _, m, _ => by cases m <;> rfl
  | _, .bl _, _, m, _ => by cases m <;> rfl
  | _, .int _, _, m, _ => by cases m <;> rfl
  | _, .str s, h, m, _ => by unfold dOk at h ⊢; exact h
  | 0, .lst _, h, _, _ => by unfold dOk at h; cases h
  | n + 1, .lst ds, h, m, hm => by
    obtain ⟨k, rfl⟩ : ∃ k, m = k + 1 := ⟨m - 1, by omega⟩
    unfold dOk at h ⊢
    exact dOks_up h k (by omega)
  | 0, .tup _, h, _, _ => by unfold dOk at h; cases h
  | n + 1, .tup ds, h, m, hm => by
    obtain ⟨k, rfl⟩ : ∃ k, m = k + 1 := ⟨m - 1, by omega⟩
    unfold dOk at h ⊢
    exact dOks_up h k (by omega)
  | _, .dic _, h, _, _ => by unfold dOk at h; cases h
  | _, .dit _, h, _, _ => by unfold dOk at h; cases h
  | _, .obj _ _, h, _, _ => by unfold dOk at h; cases h
  | _, .al _, h, _, _ => by unfold dOk at h; cases h
  | 0, .tux _, h, _, _ => by unfold dOk at h; cases h
  | n + 1, .tux ds, h, m, hm => by
    obtain ⟨k, rfl⟩ : ∃ k, m = k + 1 := ⟨m - 1, by omega⟩
    unfold dOk at h ⊢
    exact dOks_up h k (by omega)
theorem dOks_up : ∀ {n : Nat} {ds : List D}, dOks n ds = true → ∀ m, n ≤ m → dOks m ds = true
  | _, [], _, m, _ => by cases m <;> rfl
  | n, d :: ds, h, m, hm => by
    unfold dOks at h ⊢
    rw [Bool.and_eq_true] at h ⊢
    exact ⟨dOk_up h.1 m hm, dOks_up h.2 m hm⟩
end
def Sok (w : Nm) : Prop := ∀ c ∈ w, c < 1114112
theorem dS {n : Nat} {w : Nm} (h : Sok w) : dOk n (eS w) = true := dOk_sg h
theorem dL {n : Nat} {α : Type} {e : α → D} {xs : List α} (h : ∀ x ∈ xs, dOk n (e x) = true) : dOk (n + 1) (eLs e xs) = true := dOk_lst fun d hd => by obtain ⟨x, hx, rfl⟩ := List.mem_map.mp hd; exact h x hx
theorem dQ {n : Nat} {α : Type} {e : α → D} {xs : List α} (h : ∀ x ∈ xs, dOk n (e x) = true) : dOk (n + 1) (eSq e xs) = true := dOk_tup fun d hd => by obtain ⟨x, hx, rfl⟩ := List.mem_map.mp hd; exact h x hx
theorem dT2 {n : Nat} {a b : D} (h1 : dOk n a = true) (h2 : dOk n b = true) : dOk (n + 1) (.tup [a, b]) = true := dOk_tup fun d hd => by
  simp only [List.mem_cons, List.not_mem_nil, or_false] at hd
  rcases hd with rfl | rfl <;> assumption
theorem dT3 {n : Nat} {a b c : D} (h1 : dOk n a = true) (h2 : dOk n b = true) (h3 : dOk n c = true) : dOk (n + 1) (.tup [a, b, c]) = true := dOk_tup fun d hd => by
  simp only [List.mem_cons, List.not_mem_nil, or_false] at hd
  rcases hd with rfl | rfl | rfl <;> assumption
theorem dT7 {n : Nat} {a b c d e f g : D} (h1 : dOk n a = true) (h2 : dOk n b = true) (h3 : dOk n c = true) (h4 : dOk n d = true) (h5 : dOk n e = true) (h6 : dOk n f = true) (h7 : dOk n g = true) : dOk (n + 1) (.tup [a, b, c, d, e, f, g]) = true := dOk_tup fun d hd => by
  simp only [List.mem_cons, List.not_mem_nil, or_false] at hd
  rcases hd with rfl | rfl | rfl | rfl | rfl | rfl | rfl <;> assumption
theorem sok_cod (s : String) : Sok (cod s) := cod_ok s
theorem dI {n : Nat} {i : Int} : dOk n (.int i) = true := dOk_int
open LQ (pOk)
theorem pI {n : Nat} {i : Int} : pOk n (.int i) = true := LQ.pOk_int
end DL
set_option maxHeartbeats 2000000
namespace FAN
open PySem PySem.Spec PyProof.Rows L2 DL
abbrev TSII : Type := Nm × Int × Int
abbrev eTSII : TSII → D := eT3 eS D.int D.int
abbrev TSI : Type := Nm × Int
abbrev eTSI : TSI → D := eT2 eS D.int
abbrev TSS : Type := Nm × Nm
abbrev eTSS : TSS → D := eT2 eS eS
abbrev R1 : Type := Nm × (List Nm)
abbrev eR1 : R1 → D := eT2 eS (eSq eS)
abbrev TSSI : Type := Nm × Nm × Int
abbrev eTSSI : TSSI → D := eT3 eS eS D.int
abbrev R2 : Type := Nm × (List TSI) × (List D)
abbrev eR2 : R2 → D := eT3 eS (eLs eTSI) (eLs eD)
abbrev R3 : Type := Nm × (List TSII) × (List TSI) × (List Nm) × (List R2) × (List D) × (List TSS)
abbrev eR3 : R3 → D := eT7 eS (eLs eTSII) (eLs eTSI) (eLs eS) (eLs eR2) (eLs eD) (eLs eTSS)
abbrev R4 : Type := (List TSI) × (List TSI) × (List TSI) × (List TSI) × Int
abbrev TISSII : Type := Int × Nm × Nm × Int × Int
abbrev TDDI : Type := D × D × Int
abbrev TII : Type := Int × Int
abbrev eTII : TII → D := eT2 D.int D.int
abbrev R10 : Type := (List TISSII) × R4 × (List TDDI)
def n_law_mixed (p_law_cell_here : Int) (p_law_k : Int) : Option Int :=
  (mulN p_law_k p_law_k).bind fun x1 =>
  (mulN ((((p_law_cell_here % (2147483647 : Int)) * (48271 : Int)) + (((x1 + ((3 : Int) * p_law_k)) + (7 : Int)) * (69621 : Int))) % (2147483647 : Int)) ((((p_law_cell_here % (2147483647 : Int)) * (48271 : Int)) + (((x1 + ((3 : Int) * p_law_k)) + (7 : Int)) * (69621 : Int))) % (2147483647 : Int))).bind fun x2 =>
  some (x2 % (2147483647 : Int))
def n_law_names (p_law_cell_here : Int) (p_law_many : Int) : Option (List Nm) :=
  (n_law_mixed p_law_cell_here (3 : Int)).bind fun x1 =>
  (ixS (cod "abcdefghijklmnpqrstuvwxyz") (x1 % (25 : Int))).bind fun x2 =>
  (if ((decide (((x1 / (25 : Int)) % (3 : Int)) = (0 : Int))) && (decide (p_law_many < (9 : Int)))) = true then
  ((rng1  p_law_many).bind fun x3 =>
  (compO (fun (x4 : Int) => (repN x2 (p_law_many - x4)).bind fun x5 =>
  some x5) x3).bind fun c6 =>
  some c6)
  else ((modN (x1 / (525 : Int)) ((2 : Int) + ((x1 / (75 : Int)) % (7 : Int)))).bind fun x7 =>
  (rng1  p_law_many).bind fun x8 =>
  (fold (fun (x10 : Int) (s9 : (List Nm)) =>
  (rng1  ((2 : Int) + ((x1 / (75 : Int)) % (7 : Int)))).bind fun x14 =>
  (compT (fun (x15 : Int) => x2) x14).bind fun c16 =>
  (ixS (cod "bcdfghjklmnpqrstvwxz") (((x1 / (4200 : Int)) + ((3 : Int) * x10)) % (20 : Int))).bind fun x17 =>
  (putI c16 x7 x17).bind fun x18 =>
  (ixS (cod "bcdfghjklmnpqrstvwxz") (((x1 / (84000 : Int)) + (x10 / (20 : Int))) % (20 : Int))).bind fun x19 =>
  (modN (x7 + (1 : Int)) ((2 : Int) + ((x1 / (75 : Int)) % (7 : Int)))).bind fun x20 =>
  (putI x18 x20 x19).bind fun x21 =>
  (joinN (cod "") x21).bind fun x22 =>
  (push s9 x22).bind fun x23 =>
  some x23) x8 ([] : List Nm)).bind fun s24 =>
  some s24))
def n_law_coins (p_law_cell_here : Int) (p_law_way : Int) (p_law_most : Int) : Option Int :=
  (if (decide ((p_law_way % (5 : Int)) = (0 : Int))) = true then
  (some (1 : Int))
  else ((if (decide ((p_law_way % (5 : Int)) = (1 : Int))) = true then
  (some p_law_most)
  else ((if (decide ((p_law_way % (5 : Int)) = (2 : Int))) = true then
  (some ((1 : Int) + (p_law_cell_here % (7 : Int))))
  else ((if (decide ((p_law_way % (5 : Int)) = (3 : Int))) = true then
  ((modN p_law_cell_here p_law_most).bind fun x1 =>
  some ((1 : Int) + x1))
  else ((modN p_law_cell_here p_law_most).bind fun x2 =>
  (mulN (x2 + (1 : Int)) (p_law_way + (48271 : Int))).bind fun x3 =>
  (modN (x3 * (99999999999999997 : Int)) p_law_most).bind fun x4 =>
  some ((1 : Int) + x4)))))))))
def n_law_cell (p_law_script : List Int) (p_law_k : Int) : Option Int :=
  (if (decide (p_law_k < (p_law_script.length : Int))) = true then
  ((atI p_law_script p_law_k).bind fun x1 =>
  some x1)
  else (some (0 : Int)))
end FAN
namespace DK
open PySem PySem.Spec PyProof.Rows L2 DL
abbrev TSS : Type := Nm × Nm
abbrev eTSS : TSS → D := eT2 eS eS
abbrev R1 : Type := Nm × (List Nm)
abbrev eR1 : R1 → D := eT2 eS (eSq eS)
abbrev TSSI : Type := Nm × Nm × Int
abbrev eTSSI : TSSI → D := eT3 eS eS D.int
abbrev TSI : Type := Nm × Int
abbrev eTSI : TSI → D := eT2 eS D.int
abbrev R2 : Type := Nm × (List TSI) × (List D)
abbrev eR2 : R2 → D := eT3 eS (eLs eTSI) (eLs eD)
abbrev TSII : Type := Nm × Int × Int
abbrev eTSII : TSII → D := eT3 eS D.int D.int
abbrev TSIS : Type := Nm × Int × Nm
abbrev eTSIS : TSIS → D := eT3 eS D.int eS
abbrev R3 : Type := Nm × (List TSII) × (List TSI) × (List Nm) × (List R2) × (List TSIS) × (List TSS)
abbrev eR3 : R3 → D := eT7 eS (eLs eTSII) (eLs eTSI) (eLs eS) (eLs eR2) (eLs eTSIS) (eLs eTSS)
def n_law_draw (p_law_script : List Int) (p_law_k : Int) (p_law_many : Int) : Option Int :=
  ((if (decide ((0 : Int) < (p_law_script.length : Int))) = true then
  ((modN p_law_k (p_law_script.length : Int)).bind fun x1 =>
  (atI p_law_script x1).bind fun x2 =>
  some x2)
  else (some (0 : Int))) : Option Int).bind fun s3 =>
  (mulN ((1103 : Int) * p_law_k) p_law_k).bind fun x4 =>
  (mulN (((s3 % (2147483647 : Int)) + ((7 : Int) * p_law_k)) + (3 : Int)) ((48271 : Int) + x4)).bind fun x5 =>
  (modN ((x5 % (2147483629 : Int)) / (64 : Int)) p_law_many).bind fun x6 =>
  some x6
def n_law_names (p_law_script : List Int) : Option (List Nm) :=
  (n_law_draw p_law_script (901 : Int) (2 : Int)).bind fun x1 =>
  (repN (cod "zq") x1).bind fun x2 =>
  (n_law_draw p_law_script (902 : Int) (4 : Int)).bind fun x3 =>
  (cutN (cod "vzb") none (some x3)).bind fun x4 =>
  (n_law_draw p_law_script (903 : Int) (16 : Int)).bind fun x5 =>
  (rng1  (16 : Int)).bind fun x6 =>
  (compO (fun (x7 : Int) => (ixS (cod "bcdfgjkmnpqvwxyz") ((x5 + x7) % (16 : Int))).bind fun x8 =>
  (catS x2 x8).bind fun x9 =>
  (catS x9 x4).bind fun x10 =>
  some x10) x6).bind fun c11 =>
  some c11
def n_law_coins (p_law_script : List Int) (p_law_k : Int) : Option Int :=
  ((if (decide ((0 : Int) < (p_law_script.length : Int))) = true then
  ((modN p_law_k (p_law_script.length : Int)).bind fun x1 =>
  (atI p_law_script x1).bind fun x2 =>
  some x2)
  else (some (0 : Int))) : Option Int).bind fun s3 =>
  (n_law_draw p_law_script (900 : Int) (3 : Int)).bind fun x4 =>
  (if (decide ((0 : Int) < x4)) = true then
  ((n_law_draw p_law_script p_law_k (9 : Int)).bind fun x5 =>
  some ((1 : Int) + x5))
  else ((mulN p_law_k p_law_k).bind fun x6 =>
  (mulN (((s3 % (10000000000000000000000000000000000000000 : Int)) + x6) + (1 : Int)) (262078551400494415750351 : Int)).bind fun x7 =>
  some ((1 : Int) + (x7 % (1000000000000 : Int)))))
end DK
set_option maxHeartbeats 1000000
namespace DK
open PySem PySem.Spec PyProof.Rows L2 DL
theorem draw_ok (ns : List Int) (k m : Int) (hk : 0 ≤ k ∧ k ≤ 100000) (hm : 1 ≤ m) : Ok (n_law_draw ns k m) fun x => 0 ≤ x ∧ x < m := by
  unfold n_law_draw
  refine ok_bind (Q := fun _ => True) ?_ fun s _ => ?_
  · refine ok_dite (fun h => ?_) (fun h => ok_some trivial)
    refine ok_bind (ok_mod h) fun x hx => ?_
    exact ok_bind (ok_atI (R := fun _ => True) hx.1 hx.2 fun _ _ => trivial) fun _ _ => ok_some trivial
  · refine ok_eq (mulN_r (by omega)) ?_
    have h1 : 0 ≤ 1103 * k * k := Int.mul_nonneg (by omega) hk.1
    have h2 : 1103 * k * k ≤ 110300000 * 100000 := Int.mul_le_mul (by omega) hk.2 hk.1 (by omega)
    refine ok_eq (mulN_r (by omega)) ?_
    exact ok_bind (ok_mod (by omega)) fun x hx => ok_some hx
theorem coins_ok (ns : List Int) (k : Int) (hk : 0 ≤ k ∧ k ≤ 100000) : Ok (n_law_coins ns k) fun x => 1 ≤ x ∧ x ≤ 1000000000000 := by
  unfold n_law_coins
  refine ok_bind (Q := fun _ => True) ?_ fun s _ => ?_
  · refine ok_dite (fun h => ?_) (fun h => ok_some trivial)
    refine ok_bind (ok_mod h) fun x hx => ?_
    exact ok_bind (ok_atI (R := fun _ => True) hx.1 hx.2 fun _ _ => trivial) fun _ _ => ok_some trivial
  · refine ok_bind (draw_ok ns 900 3 (by omega) (by omega)) fun x hx => ?_
    refine ok_dite (fun h => ?_) (fun h => ?_)
    · exact ok_bind (draw_ok ns k 9 hk (by omega)) fun y hy => ok_some (by omega)
    · have h1 : 0 ≤ k * k := Int.mul_nonneg hk.1 hk.1
      have h2 : k * k ≤ 100000 * 100000 := Int.mul_le_mul hk.2 hk.2 hk.1 (by omega)
      refine ok_eq (mulN_r (by omega)) ?_
      refine ok_eq (mulN_b (by omega) (by omega) (by omega) (by omega)) ?_
      refine ok_some ?_
      generalize (s % 10000000000000000000000000000000000000000 + k * k + 1) * 262078551400494415750351 = z
      omega
def lets : List Nat := cod "bcdfgjkmnpqvwxyz"
theorem lets_len : lets.length = 16 := by decide
def nameK (A B : Nm) (f : Int) (k : Int) : Nm := A ++ [lets.getD ((f + k) % 16).toNat 0] ++ B
def namesK (A B : Nm) (f : Int) : List Nm := (List.range 16).map fun (k : Nat) => nameK A B f (k : Int)
def Low (n : Nm) : Prop := 1 ≤ n.length ∧ n.length ≤ 7 ∧ ∀ c ∈ n, 97 ≤ c ∧ c ≤ 122
theorem names_ok (ns : List Int) : ∃ (A B : Nm) (f : Int), A.length ≤ 2 ∧ B.length ≤ 3 ∧ (∀ c ∈ A ++ B, 97 ≤ c ∧ c ≤ 122) ∧ n_law_names ns = some (namesK A B f) := by
  obtain ⟨d1, h1, a0, a1⟩ := draw_ok ns 901 2 (by omega) (by omega)
  obtain ⟨d2, h2, b0, b1⟩ := draw_ok ns 902 4 (by omega) (by omega)
  obtain ⟨f, h3, f0, f1⟩ := draw_ok ns 903 16 (by omega) (by omega)
  obtain ⟨A, hA, lA, cA⟩ : ∃ A : Nm, repN (cod "zq") d1 = some A ∧ A.length ≤ 2 ∧ ∀ c ∈ A, 97 ≤ c ∧ c ≤ 122 := by
    have : d1 = 0 ∨ d1 = 1 := by omega
    rcases this with rfl | rfl
    · exact ⟨[], by decide, by decide, by decide⟩
    · exact ⟨cod "zq", by decide, by decide, by decide⟩
  obtain ⟨B, hB, lB, cB⟩ : ∃ B : Nm, cutN (cod "vzb") none (some d2) = some B ∧ B.length ≤ 3 ∧ ∀ c ∈ B, 97 ≤ c ∧ c ≤ 122 := by
    have : d2 = 0 ∨ d2 = 1 ∨ d2 = 2 ∨ d2 = 3 := by omega
    rcases this with rfl | rfl | rfl | rfl
    · exact ⟨[], by decide, by decide, by decide⟩
    · exact ⟨cod "v", by decide, by decide, by decide⟩
    · exact ⟨cod "vz", by decide, by decide, by decide⟩
    · exact ⟨cod "vzb", by decide, by decide, by decide⟩
  refine ⟨A, B, f, lA, lB, fun c hc => (List.mem_append.mp hc).elim (cA c) (cB c), ?_⟩
  unfold n_law_names
  rw [h1, bindS, hA, bindS, h2, bindS, hB, bindS, h3, bindS, rng1_eq (by omega) (by omega), bindS]
  rw [compO_eq (g := fun i => nameK A B f i) (by rw [rngN_len]; decide) (fun i hi => ?_)]
  · show some ((rngN 0 16).map _) = some ((List.range 16).map _)
    unfold rngN
    rw [List.map_map]
    refine congrArg some (List.map_congr_left fun k _ => ?_)
    show nameK A B f (0 + (k : Int)) = _
    rw [Int.zero_add]
  · have hi := rngN_mem hi
    have hi : 0 ≤ (f + i) % 16 := by omega
    have hi2 : (f + i) % 16 < (lets.length : Int) := by rw [lets_len]; omega
    obtain ⟨c, _, hc, hc2⟩ := atI_in hi hi2
    have e1 : ixS (cod "bcdfgjkmnpqvwxyz") ((f + i) % 16) = some [lets.getD ((f + i) % 16).toNat 0] := by
      show (if lets.length ≤ 16777216 then (atI lets _).map _ else none) = _
      rw [if_pos (by decide), hc, List.getD_eq_getElem?_getD, hc2]; rfl
    rw [e1, bindS, catS_eq (by simp; omega), bindS, catS_eq (by simp; omega), bindS]; rfl
inductive Rl
  | pay (c : Nm) | share (cs : List Nm) | repay (c : Nm) | fill (p : Nm) | lend (o : Nm) (x : Int) | back (o : Nm) | rest (c : Nm)
def Rl.d : Rl → D
  | .pay c => eTSS (cod "pay", c)
  | .share cs => eT2 eS (eSq eS) (cod "share", cs)
  | .repay c => eTSS (cod "repay", c)
  | .fill p => eTSS (cod "fill", p)
  | .lend o x => eT3 eS eS D.int (cod "lend", o, x)
  | .back o => eTSS (cod "back", o)
  | .rest c => eTSS (cod "rest", c)
def Rl.In (cs ps os : List Nm) : Rl → Prop
  | .pay c => c ∈ cs
  | .share l => (∀ c ∈ l, c ∈ cs) ∧ l.Nodup ∧ 2 ≤ l.length
  | .repay c => c ∈ cs
  | .fill p => p ∈ ps
  | .lend o x => o ∈ os ∧ 1 ≤ x ∧ x ≤ 1000000000000
  | .back o => o ∈ os
  | .rest _ => False
def Rl.held : Rl → List Nm
  | .share cs => cs
  | .repay c => [c]
  | _ => []
abbrev TO : Type := Nm × List TSI × List Rl
def TO.d (o : TO) : R2 := (o.1, o.2.1, o.2.2.map Rl.d)
def TO.held (o : TO) : List Nm := o.2.2.flatMap Rl.held
structure TOk (cs ps os : List Nm) (o : TO) : Prop where
  parts : ∀ p ∈ o.2.1, p.1 ∈ cs ∧ 1 ≤ p.2 ∧ p.2 ≤ 10
  sub : (o.2.1.map (·.1)).Sublist cs
  rules : ∃ (rs : List Rl) (c : Nm), o.2.2 = rs ++ [Rl.rest c] ∧ (∀ r ∈ rs, r.In cs ps os) ∧ c ∈ cs ∧ rs.length ≤ 5
theorem TOk.all {cs ps os : List Nm} {o : TO} (h : TOk cs ps os o) : (∀ r ∈ o.2.2, r.In cs ps os ∨ ∃ c ∈ cs, r = .rest c) ∧ o.2.2.length ≤ 6 := by
  obtain ⟨rs, c, e, h1, h2, h3⟩ := h.rules
  rw [e]
  refine ⟨fun r hr => ?_, by simp; omega⟩
  rcases List.mem_append.mp hr with hr | hr
  · exact .inl (h1 r hr)
  · exact .inr ⟨c, h2, List.mem_singleton.mp hr⟩
abbrev TP : Type := Nm × (List TSII) × (List TSI) × (List Nm) × (List TO) × (List TSIS) × (List TSS)
def TP.d (p : TP) : R3 := (p.1, p.2.1, p.2.2.1, p.2.2.2.1, p.2.2.2.2.1.map TO.d, p.2.2.2.2.2.1, p.2.2.2.2.2.2)
def onames : List Nm := [cod "bb", cod "ck", cod "dd"]
structure PoolOk (cs ps os : List Nm) (p : TP) : Prop where
  claims : p.2.1.map (·.1) = cs
  sizes : ∀ c ∈ p.2.1, (1 ≤ c.2.1 ∧ c.2.1 ≤ 1000000000000) ∧ 1 ≤ c.2.2 ∧ c.2.2 ≤ 1000000000000
  pots : p.2.2.1.map (·.1) = ps
  marks : ∀ c ∈ p.2.2.1, 1 ≤ c.2 ∧ c.2 ≤ 1000000000000
  eat : p.2.2.2.1.Nodup ∧ ∀ c ∈ p.2.2.2.1, c ∈ cs
  orders : ∀ o ∈ p.2.2.2.2.1, TOk cs ps os o
  onames : ∃ k, 1 ≤ k ∧ k ≤ 3 ∧ p.2.2.2.2.1.map (·.1) = onames.take k
  looks : ∀ l ∈ p.2.2.2.2.2.1, l.1 ∈ cs ∧ (1 ≤ l.2.1 ∧ l.2.1 ≤ 3) ∧ l.2.2 ∈ p.2.2.2.2.1.map (·.1)
  lookn : p.2.2.2.2.2.1.length ≤ 2
  guards : ∀ g ∈ p.2.2.2.2.2.2, g.1 ∈ ps ∧ g.2 ∈ cs ∧ g.2 ∉ p.2.2.2.2.1.flatMap TO.held
  guardn : (p.2.2.2.2.2.2.map (·.2)).Nodup ∧ p.2.2.2.2.2.2.length ≤ 3
theorem cutTake {α : Type} {xs : List α} {k : Int} (h : 0 ≤ k) : cutA xs none (some k) = xs.take k.toNat := by
  unfold cutA
  rw [show HT.sIx xs.length 0 none = 0 from rfl, sIx_i h, List.drop_zero, Nat.sub_zero]
  by_cases h : xs.length ≤ k.toNat
  · rw [Nat.min_eq_right h, List.take_of_length_le (by omega), List.take_of_length_le h]
  · rw [Nat.min_eq_left (by omega)]
end DK
namespace DK
open PySem PySem.Spec PyProof.Rows L2 DL
theorem getD_of {α : Type} {xs : List α} {i : Int} (d : α) (h0 : 0 ≤ i) (h1 : i < xs.length) : atI xs i = some (xs.getD i.toNat d) := by
  obtain ⟨x, _, e, e2⟩ := atI_in h0 h1
  rw [e, List.getD_eq_getElem?_getD, e2]; rfl
def claimsAt (N : List Nm) (k c : Nat) : List Nm := (N.drop (3 + 4 * k)).take c
def potsAt (N : List Nm) (k p : Nat) : List Nm := [N.getD (6 + 4 * k) [], N.getD (6 + 4 * k) [] ++ cod "h"].take p
def othersAt (N : List Nm) (k m : Nat) : List Nm := (N.take m).filter fun x => !decide (x = N.getD k [])
structure PoolAt (N : List Nm) (m k : Nat) (t : TP) : Prop where
  name : t.1 = N.getD k []
  ok : ∃ c p, 1 ≤ c ∧ c ≤ 3 ∧ p ≤ 2 ∧ PoolOk (claimsAt N k c) (potsAt N k p) (othersAt N k m) t
structure DealOk (most : Nat) (ts : List TP) : Prop where
  names : ∃ N : List Nm, N.Nodup ∧ N.length = 16 ∧ (∀ n ∈ N, Low n) ∧ 1 ≤ ts.length ∧ ts.length ≤ most ∧ ∀ k t, ts[k]? = some t → PoolAt N ts.length k t
end DK
namespace DK
open PySem PySem.Spec PyProof.Rows L2 DL
theorem rl_ok {cs ps os : List Nm} (hs : ∀ n ∈ cs ++ ps ++ os, Sok n) {r : Rl} (h : r.In cs ps os ∨ ∃ c ∈ cs, r = .rest c) : dOk 4 r.d = true := by
  have hc : ∀ n ∈ cs, Sok n := fun n hn => hs n (by simp [hn])
  have hp : ∀ n ∈ ps, Sok n := fun n hn => hs n (by simp [hn])
  have ho : ∀ n ∈ os, Sok n := fun n hn => hs n (by simp [hn])
  rcases h with h | ⟨c, hc2, rfl⟩
  · cases r with
    | pay c => exact dT2 (dS (sok_cod _)) (dS (hc c h))
    | share l => exact dT2 (dS (sok_cod _)) (dQ fun x hx => dS (hc x (h.1 x hx)))
    | repay c => exact dT2 (dS (sok_cod _)) (dS (hc c h))
    | fill c => exact dT2 (dS (sok_cod _)) (dS (hp c h))
    | lend c x => exact dT3 (dS (sok_cod _)) (dS (ho c h.1)) rfl
    | back c => exact dT2 (dS (sok_cod _)) (dS (ho c h))
    | rest c => exact h.elim
  · exact dT2 (dS (sok_cod _)) (dS (hc c hc2))
theorem take_mem {α : Type} {xs : List α} {k : Nat} {x : α} (h : x ∈ xs.take k) : x ∈ xs := List.mem_of_mem_take h
theorem pool_dOk {cs ps os : List Nm} (hs : ∀ n ∈ cs ++ ps ++ os, Sok n) {t : TP} (h : PoolOk cs ps os t) (hn : Sok t.1) : dOk 8 (eR3 t.d) = true := by
  have hc : ∀ n ∈ cs, Sok n := fun n hn => hs n (by simp [hn])
  have hp : ∀ n ∈ ps, Sok n := fun n hn => hs n (by simp [hn])
  have hon : ∀ n ∈ t.2.2.2.2.1.map (·.1), Sok n := fun n hn => by
    obtain ⟨k, _, _, e⟩ := h.onames
    rw [e] at hn
    have := take_mem hn
    simp only [onames, List.mem_cons, List.not_mem_nil, or_false] at this
    rcases this with rfl | rfl | rfl <;> exact sok_cod _
  refine dT7 (dS hn) (dL fun c hx => ?_) (dL fun c hx => ?_) (dL fun c hx => dS (hc c (h.eat.2 c hx))) (dL fun o hx => ?_) (dL fun l hx => ?_) (dL fun g hx => ?_)
  · exact dT3 (dS (hc c.1 (by rw [← h.claims]; exact List.mem_map.mpr ⟨c, hx, rfl⟩))) rfl rfl
  · exact dT2 (dS (hp c.1 (by rw [← h.pots]; exact List.mem_map.mpr ⟨c, hx, rfl⟩))) rfl
  · obtain ⟨o, ho, rfl⟩ := List.mem_map.mp hx
    have hk := h.orders o ho
    refine dT3 (dS (hon _ (List.mem_map.mpr ⟨o, ho, rfl⟩))) (dL fun p hp => dT2 (dS (hc _ (hk.parts p hp).1)) rfl) (dL fun r hr => ?_)
    obtain ⟨r2, hr2, rfl⟩ := List.mem_map.mp hr
    exact rl_ok hs (hk.all.1 r2 hr2)
  · have := h.looks l hx
    exact dT3 (dS (hc _ this.1)) rfl (dS (hon _ this.2.2))
  · have := h.guards g hx
    exact dT2 (dS (hp _ this.1)) (dS (hc _ this.2.1))
structure PoolG (cs ps os : List Nm) (t : TP) : Prop where
  sok : ∀ n ∈ cs ++ ps ++ os, Sok n
  c3 : cs.length ≤ 3
  cn : cs.Nodup
  p2 : ps.length ≤ 2
  ok : PoolOk cs ps os t
  nm : Sok t.1
theorem PoolG.dOk {cs ps os : List Nm} {t : TP} (h : PoolG cs ps os t) : DL.dOk 8 (eR3 t.d) = true := pool_dOk h.sok h.ok h.nm
theorem sub_len {α : Type} [DecidableEq α] : ∀ {es cs : List α}, es.Nodup → (∀ e ∈ es, e ∈ cs) → es.length ≤ cs.length
  | [], _, _, _ => Nat.zero_le _
  | e :: es, cs, hn, h => by
    rw [List.nodup_cons] at hn
    have h1 : es.length ≤ (cs.erase e).length := sub_len hn.2 fun x hx => (List.mem_erase_of_ne (fun z : x = e => hn.1 (by rw [← z]; exact hx))).mpr (h x (by simp [hx]))
    have h2 : e ∈ cs := h e (by simp)
    rw [List.length_erase_of_mem h2] at h1
    have := List.length_pos_of_mem h2
    rw [List.length_cons]; omega
def S {κ α : Type} (cs : List κ) (sz : κ → α) : List (κ × α) := cs.map fun c => (c, sz c)
def upf {κ α : Type} [DecidableEq κ] (sz : κ → α) (c : κ) (x : α) : κ → α := fun k => if k = c then x else sz k
section
variable {κ α : Type} [DecidableEq κ] {cs : List κ} {sz : κ → α} {c : κ} {x : α}
theorem S_len : (S cs sz).length = cs.length := List.length_map _
theorem S_keys : (S cs sz).map (·.1) = cs := by
  unfold S; rw [List.map_map]
  exact (List.map_congr_left fun _ _ => rfl).trans (List.map_id _)
theorem lk_S : c ∈ cs → lkN (S cs sz) c = some (sz c) := by
  induction cs with
  | nil => intro h; cases h
  | cons d cs ih =>
    intro h
    show lkN ((d, sz d) :: S cs sz) c = _
    rw [lk_cons]
    by_cases e : d = c
    · subst e; rw [if_pos rfl]
    · rw [if_neg e]
      rcases List.mem_cons.mp h with z | z
      · exact absurd z.symm e
      · exact ih z
theorem put_S (h : c ∈ cs) : putN (S cs sz) c x = S cs (upf sz c x) := by
  unfold putN
  rw [if_pos]
  · unfold S
    rw [List.map_map]
    apply List.map_congr_left
    intro d _
    show (if d = c then (d, x) else (d, sz d)) = (d, if d = c then x else sz d)
    split <;> rfl
  · rw [List.any_eq_true]
    exact ⟨(c, sz c), List.mem_map.mpr ⟨c, h, rfl⟩, decide_eq_true rfl⟩
theorem putK_S (h : c ∈ cs) (hl : cs.length < 16000000) : DL.putK (S cs sz) c x = some (S cs (upf sz c x)) := by
  unfold DL.putK
  rw [if_pos (by rw [S_len]; exact hl), put_S h]
theorem mkK_id {ps : List (κ × α)} (h : (ps.map (·.1)).Nodup) : mkK ps = ps := by
  have go : ∀ (qs acc : List (κ × α)), ((acc ++ qs).map (·.1)).Nodup → qs.foldl (fun acc p => putN acc p.1 p.2) acc = acc ++ qs := by
    intro qs
    induction qs with
    | nil => intro acc _; simp
    | cons q qs ih =>
      intro acc hn
      rw [List.foldl_cons]
      have hq : putN acc q.1 q.2 = acc ++ [q] := by
        unfold putN
        rw [if_neg]
        intro z
        obtain ⟨p, hp, e⟩ := List.any_eq_true.mp z
        rw [List.map_append, List.map_cons, List.nodup_append] at hn
        exact hn.2.2 p.1 (List.mem_map.mpr ⟨p, hp, rfl⟩) q.1 (by simp) (of_decide_eq_true e)
      rw [hq, ih (acc ++ [q]) (by simpa using hn)]
      simp
  exact go ps [] (by simpa using h)
theorem S_of [Inhabited α] {ps : List (κ × α)} (h : ps.map (·.1) = cs) (hn : cs.Nodup) (d : α) : ps = S cs fun c => (lkN ps c).getD d := by
  subst h
  unfold S
  rw [List.map_map]
  conv => lhs; rw [← List.map_id ps]
  apply List.map_congr_left
  intro p hp
  show p = (p.1, (lkN ps p.1).getD d)
  rw [lk_of hn (show (p.1, p.2) ∈ ps from hp)]; rfl
theorem mkK_S (hn : cs.Nodup) : mkK (S cs sz) = S cs sz := mkK_id (by rw [S_keys]; exact hn)
end
end DK
namespace FA
open PySem PySem.Spec PyProof.Rows L2 DL FAN
open DK (getD_of cutTake Rl S upf lk_S putK_S mkK_S S_of S_len S_keys)
theorem mixed_ok (c k : Int) (hk : 0 ≤ k ∧ k ≤ 100000) : Ok (n_law_mixed c k) fun x => 0 ≤ x ∧ x < 2147483647 := by
  unfold n_law_mixed
  refine ok_eq (mulN_l (by omega)) ?_
  have h0 := Int.emod_nonneg (c % 2147483647 * 48271 + (k * k + 3 * k + 7) * 69621) (show (2147483647 : Int) ≠ 0 by omega)
  have h1 := Int.emod_lt_of_pos (c % 2147483647 * 48271 + (k * k + 3 * k + 7) * 69621) (show (0 : Int) < 2147483647 by omega)
  generalize (c % 2147483647 * 48271 + (k * k + 3 * k + 7) * 69621) % 2147483647 = m at h0 h1
  refine ok_eq (mulN_l (by omega)) (ok_some ⟨Int.emod_nonneg _ (by omega), Int.emod_lt_of_pos _ (by omega)⟩)
theorem coins_ok (c w m : Int) (hw : 0 ≤ w ∧ w ≤ 2147483647) (hm : 7 ≤ m ∧ m ≤ 1000000000000) : Ok (n_law_coins c w m) fun x => 1 ≤ x ∧ x ≤ m := by
  unfold n_law_coins
  refine ok_dite (fun _ => ok_some (by omega)) fun _ => ?_
  refine ok_dite (fun _ => ok_some (by omega)) fun _ => ?_
  refine ok_dite (fun _ => ok_some (by have := Int.emod_nonneg c (show (7 : Int) ≠ 0 by omega); have := Int.emod_lt_of_pos c (show (0 : Int) < 7 by omega); omega)) fun _ => ?_
  refine ok_dite (fun _ => ok_bind (ok_mod (by omega)) fun x hx => ok_some (by omega)) fun _ => ?_
  refine ok_bind (ok_mod (by omega)) fun x hx => ?_
  refine ok_eq (mulN_r (by omega)) ?_
  exact ok_bind (ok_mod (by omega)) fun x hx => ok_some (by omega)
def seg (N : List Nm) (a n : Nat) : List Nm := (N.drop a).take n
theorem rngN_pre {b : Nat} {pre post : List Int} {x : Int} (h : rngN 0 b = pre ++ x :: post) : x = (pre.length : Int) ∧ pre.length < b := by
  have hl := congrArg List.length h
  rw [rngN_len, List.length_append, List.length_cons] at hl
  have e := congrArg (fun l : List Int => l[pre.length]?) h
  simp only [List.getElem?_append_right (Nat.le_refl _), Nat.sub_self] at e
  unfold rngN at e
  rw [List.getElem?_map, List.getElem?_range (by omega)] at e
  have e : some (0 + ((pre.length : Nat) : Int)) = some x := e
  exact ⟨by injection e with e; omega, by omega⟩
structure ClOk (N : List Nm) (cl : List TSII) : Prop where
  len : 1 ≤ cl.length ∧ cl.length ≤ 6
  names : cl.map (·.1) = seg N 1 cl.length
  size : ∀ c ∈ cl, (1 ≤ c.2.1 ∧ c.2.1 ≤ 1000000000000) ∧ 1 ≤ c.2.2 ∧ c.2.2 ≤ 1000000000000
structure PtOk (N : List Nm) (pl : List TSI) : Prop where
  len : pl.length ≤ 3
  names : pl.map (·.1) = seg N 7 pl.length
  mark : ∀ c ∈ pl, 1 ≤ c.2 ∧ c.2 ≤ 1000000000000
theorem eqQ_nil {n : Nat} {d : D} {ds : List D} (hn : n ≤ 64) (h : dOk n (.lst (d :: ds)) = true) : eqQ (.lst (d :: ds)) (.lst []) = some false := by
  obtain ⟨p, h1, h2, h3, h4⟩ := dOk_py n _ h
  obtain ⟨q, g1, g2⟩ := omap (show (toPys (d :: ds)).map PyData.list = some p from h1)
  obtain ⟨x, k1, k2⟩ := obind (show (toPy d).bind (fun p => (toPys ds).map (p :: ·)) = some q from g1)
  obtain ⟨y, k3, k4⟩ := omap k2
  subst k4; subst g2
  have hs : SeqAt.shaped (.list (x :: y)) = true := by
    unfold SeqAt.shaped
    rw [h2, decide_eq_true (by omega)]; rfl
  show eqDeep _ _ = _
  unfold eqDeep
  rw [h1]
  show (if (SeqAt.shaped (.list (x :: y)) && SeqAt.shaped (.list [])) = true then some (PyData.eqv (.list (x :: y)) (.list [])) else none) = _
  rw [hs]
  rfl
theorem eqQ_nn : eqQ (.lst []) (.lst []) = some true := rfl
theorem ok_empty {α : Type} {e : α → D} {xs : List α} {n : Nat} (hn : n ≤ 64) (h : dOk n (eLs e xs) = true) : eqQ (eLs e xs) (eLs e ([] : List α)) = some (decide (xs = [])) := by
  cases xs with
  | nil => exact eqQ_nn
  | cons x xs =>
    rw [decide_eq_false (by simp)]
    exact eqQ_nil hn h
structure GdOk (cs ps : List Nm) (gs : List TSS) : Prop where
  len : gs.length ≤ 3
  mem : ∀ g ∈ gs, g.1 ∈ ps ∧ g.2 ∈ cs
structure Kinds (kinds : List Nm) (ok : Rl → Prop) : Prop where
  pay : ∀ c, kinds ≠ [] → ok (.pay c)
  repay : ∀ c, cod "repay" ∈ kinds → ok (.repay c)
  fill : ∀ c, cod "fill" ∈ kinds → ok (.fill c)
  share : ∀ l, cod "share" ∈ kinds → ok (.share l)
  lend : ∀ c x, cod "lend" ∈ kinds → ok (.lend c x)
  back : ∀ c, cod "back" ∈ kinds → ok (.back c)
end FA
namespace FA
open PySem PySem.Spec PyProof.Rows L2 DL FAN
open DK (getD_of cutTake Rl TO S upf lk_S putK_S mkK_S S_of S_len S_keys)
def Low (n : Nm) : Prop := ∀ c ∈ n, 97 ≤ c ∧ c ≤ 122
theorem Low.sok {n : Nm} (h : Low n) : Sok n := fun c hc => by have := h c hc; omega
def L25 : List Nat := cod "abcdefghijklmnpqrstuvwxyz"
def L20 : List Nat := cod "bcdfghjklmnpqrstvwxz"
theorem L25_low : L25.length = 25 ∧ ∀ c ∈ L25, 97 ≤ c ∧ c ≤ 122 := by decide +kernel
theorem L20_low : L20.length = 20 ∧ ∀ c ∈ L20, 97 ≤ c ∧ c ≤ 122 := by decide +kernel
theorem L20_inj : ∀ i < 20, ∀ j < 20, L20.getD i 0 = L20.getD j 0 → i = j := by decide +kernel
theorem ixS_ok {l : List Nat} {i : Int} (h : l.length ≤ 1000) (h0 : 0 ≤ i) (h1 : i < l.length) : ixS l i = some [l.getD i.toNat 0] := by
  unfold ixS
  rw [if_pos (by omega), getD_of 0 h0 h1]; rfl
theorem getD_mem {α : Type} {l : List α} {i : Nat} {d : α} (h : i < l.length) : l.getD i d ∈ l := by
  rw [List.getD_eq_getElem?_getD, List.getElem?_eq_getElem h]
  exact List.getElem_mem h
theorem joinL_nil : ∀ ls : List (List Nat), TL.joinL [] ls = ls.flatten
  | [] => rfl
  | [l] => by simp [TL.joinL]
  | l :: m :: ls => by
    have := joinL_nil (m :: ls)
    show l ++ ([] ++ TL.joinL [] (m :: ls)) = _
    rw [this]; simp
theorem flat1 : ∀ l : List Nat, (l.map fun c => [c]).flatten = l
  | [] => rfl
  | c :: l => by rw [List.map_cons, List.flatten_cons, flat1 l]; rfl
theorem len1 : ∀ l : List Nat, ((l.map fun c => [c]).map (·.length)).sum = l.length
  | [] => rfl
  | c :: l => by rw [List.map_cons, List.map_cons, List.sum_cons, len1 l, List.length_cons]; simp; omega
theorem join1 {l : List Nat} (h : l.length ≤ 1000) : joinN (cod "") (l.map fun c => [c]) = some l := by
  unfold joinN
  rw [len1, if_pos (by show l.length + (l.map _).length * 0 ≤ _; omega), show (cod "") = ([] : List Nat) from by decide, joinL_nil, flat1]
def nameF (b : Nat) (size at' at2 : Nat) (f : Int) (s2 : Nat) (k : Int) : Nm := ((List.replicate size b).set at' (L20.getD ((f + 3 * k) % 20).toNat 0)).set at2 s2
theorem nameF_low {b size at' at2 : Nat} {f : Int} {s2 : Nat} {k : Int} (hb : 97 ≤ b ∧ b ≤ 122) (h2 : 97 ≤ s2 ∧ s2 ≤ 122) : Low (nameF b size at' at2 f s2 k) := fun c hc => by
  unfold nameF at hc
  rcases List.mem_or_eq_of_mem_set hc with hc | rfl
  · rcases List.mem_or_eq_of_mem_set hc with hc | rfl
    · rw [(List.mem_replicate.mp hc).2]; exact hb
    · exact L20_low.2 _ (getD_mem (by rw [L20_low.1]; omega))
  · exact h2
theorem nameF_inj {b size at' at2 : Nat} {f : Int} {s2 : Nat} {i j : Int} (h1 : at' < size) (h2 : at' ≠ at2) (hi : 0 ≤ i ∧ i < 20) (hj : 0 ≤ j ∧ j < 20) (h : nameF b size at' at2 f s2 i = nameF b size at' at2 f s2 j) : i = j := by
  have e := congrArg (fun l : Nm => l[at']?) h
  have hl : at' < (List.replicate size b).length := by rw [List.length_replicate]; exact h1
  simp only [nameF, List.getElem?_set_ne (Ne.symm h2), List.getElem?_set_self hl] at e
  have e := L20_inj _ (by omega) _ (by omega) (Option.some.inj e)
  omega
theorem names_ok (c many : Int) (hm : 0 ≤ many ∧ many ≤ 20) : Ok (n_law_names c many) fun N => N.length = many.toNat ∧ N.Nodup ∧ ∀ n ∈ N, Low n := by
  unfold n_law_names
  refine ok_bind (mixed_ok c 3 (by omega)) fun m hm2 => ?_
  refine ok_eq (ixS_ok (l := L25) (by rw [L25_low.1]; omega) (Int.emod_nonneg _ (by omega)) (by rw [L25_low.1]; exact Int.emod_lt_of_pos _ (by omega))) ?_
  have hb : 97 ≤ L25.getD (m % 25).toNat 0 ∧ L25.getD (m % 25).toNat 0 ≤ 122 := L25_low.2 _ (getD_mem (by rw [L25_low.1]; omega))
  generalize L25.getD (m % 25).toNat 0 = b at hb
  refine ok_ite (fun _ => ?_) (fun _ => ?_)
  · refine ok_eq (rng1_eq (by omega) (by omega)) ?_
    refine ok_eq (compO_eq (g := fun k => List.replicate (many - k).toNat b) (by rw [rngN_len]; omega) fun k hk => ?_) ?_
    · have := rngN_mem hk
      unfold repN
      rw [if_pos ⟨by omega, by omega, by simp; omega⟩, bindS]
      congr 1
      induction (many - k).toNat with
      | zero => rfl
      | succ n ih => rw [List.replicate_succ, List.flatten_cons, ih, List.replicate_succ]; rfl
    · refine ok_some ⟨by rw [List.length_map, rngN_len], ?_, fun n hn => ?_⟩
      · rw [List.Nodup, List.pairwise_map]
        unfold rngN
        rw [List.pairwise_map]
        refine List.Pairwise.imp_of_mem (fun {u v} hu hv hne e => ?_) (List.nodup_range (n := many.toNat))
        have h1 := List.mem_range.mp hu
        have h2 := List.mem_range.mp hv
        have := congrArg List.length e
        rw [List.length_replicate, List.length_replicate] at this
        omega
      · obtain ⟨k, hk, rfl⟩ := List.mem_map.mp hn
        intro c hc
        rw [(List.mem_replicate.mp hc).2]; exact hb
  · have z0 := Int.emod_nonneg (m / 75) (show (7 : Int) ≠ 0 by omega)
    have z1 := Int.emod_lt_of_pos (m / 75) (show (0 : Int) < 7 by omega)
    obtain ⟨size, hsz⟩ : ∃ size : Nat, 2 + m / 75 % 7 = (size : Int) := ⟨(2 + m / 75 % 7).toNat, by omega⟩
    rw [hsz]
    have hs2 : 2 ≤ size ∧ size ≤ 8 := by omega
    refine ok_eq (modN_eq (by omega)) ?_
    have t0 := Int.emod_nonneg (m / 525) (show (size : Int) ≠ 0 by omega)
    have t1 := Int.emod_lt_of_pos (m / 525) (show (0 : Int) < size by omega)
    obtain ⟨at', hat⟩ : ∃ a : Nat, m / 525 % (size : Int) = (a : Int) := ⟨(m / 525 % (size : Int)).toNat, by omega⟩
    rw [hat] at t0 t1 ⊢
    obtain ⟨at2, hat2⟩ : ∃ a : Nat, ((at' : Int) + 1) % (size : Int) = (a : Int) := ⟨(((at' : Int) + 1) % (size : Int)).toNat, by have := Int.emod_nonneg ((at' : Int) + 1) (show (size : Int) ≠ 0 by omega); omega⟩
    have u1 := Int.emod_lt_of_pos ((at' : Int) + 1) (show (0 : Int) < size by omega)
    have hne : at' ≠ at2 := by
      intro e
      subst e
      by_cases h : (at' : Int) + 1 < size
      · rw [Int.emod_eq_of_lt (by omega) h] at hat2; omega
      · have : (at' : Int) + 1 = size := by omega
        rw [this, Int.emod_self] at hat2; omega
    refine ok_eq (rng1_eq (by omega) (by omega)) ?_
    have g2 : ∀ k : Int, 0 ≤ k ∧ k < 20 → (m / 84000 + k / 20) % 20 = m / 84000 % 20 := fun k hk => by rw [show k / 20 = 0 by omega, Int.add_zero]
    obtain ⟨s2, hs2'⟩ : ∃ s, s = L20.getD (m / 84000 % 20).toNat 0 := ⟨_, rfl⟩
    have hsl : 97 ≤ s2 ∧ s2 ≤ 122 := by
      subst hs2'
      exact L20_low.2 _ (getD_mem (by rw [L20_low.1]; omega))
    refine ok_bind (ok_fold0 (I := fun done s => s = done.map (nameF b size at' at2 (m / 4200) s2)) rfl fun pre x post s hp hi => ?_) fun s hs => ?_
    · obtain ⟨hx, hlt⟩ := rngN_pre hp
      subst hi
      refine ok_eq (rng1_eq (by omega) (by omega)) ?_
      refine ok_eq (compT_eq (by rw [rngN_len]; omega)) ?_
      have e0 : (rngN 0 (size : Int).toNat).map (fun (_ : Int) => [b]) = (List.replicate size b).map fun c => [c] := by
        rw [List.map_replicate]
        refine List.eq_replicate_iff.mpr ⟨by rw [List.length_map, rngN_len]; omega, fun y hy => ?_⟩
        obtain ⟨_, _, rfl⟩ := List.mem_map.mp hy; rfl
      rw [e0]
      refine ok_eq (ixS_ok (l := L20) (by rw [L20_low.1]; omega) (Int.emod_nonneg _ (by omega)) (by rw [L20_low.1]; exact Int.emod_lt_of_pos _ (by omega))) ?_
      have putS : ∀ (l : List Nat) (i c : Nat), i < l.length → putI (l.map fun c => [c]) (i : Int) [c] = some ((l.set i c).map fun c => [c]) := fun l i c hi => by
        unfold putI
        rw [List.length_map, show ixN l.length (i : Int) = some i from by unfold ixN; rw [if_pos (by omega), if_pos (by omega)]; rfl]
        show some _ = _
        rw [List.map_set]
      refine ok_eq (putS _ at' _ (by rw [List.length_replicate]; omega)) ?_
      rw [g2 x (by omega)]
      refine ok_eq (ixS_ok (l := L20) (by rw [L20_low.1]; omega) (Int.emod_nonneg _ (by omega)) (by rw [L20_low.1]; exact Int.emod_lt_of_pos _ (by omega))) ?_
      rw [← hs2']
      refine ok_eq (modN_eq (by omega)) ?_
      rw [hat2]
      refine ok_eq (putS _ at2 _ (by rw [List.length_set, List.length_replicate]; omega)) ?_
      refine ok_eq (join1 (by rw [List.length_set, List.length_set, List.length_replicate]; omega)) ?_
      exact ok_eq (push_eq (by rw [List.length_map]; omega)) (ok_some (by rw [List.map_append]; rfl))
    · subst hs
      refine ok_some ⟨by rw [List.length_map, rngN_len], ?_, fun n hn => ?_⟩
      · rw [List.Nodup, List.pairwise_map]
        unfold rngN
        rw [List.pairwise_map]
        refine List.Pairwise.imp_of_mem (fun {u v} hu hv hne2 e => ?_) (List.nodup_range (n := many.toNat))
        have h1 := List.mem_range.mp hu
        have h2 := List.mem_range.mp hv
        have := nameF_inj (by omega) hne (by omega) (by omega) e
        omega
      · obtain ⟨k, hk, rfl⟩ := List.mem_map.mp hn
        exact nameF_low hb hsl
end FA
namespace FA
open PySem PySem.Spec PyProof.Rows L2 DL FAN
open DK (getD_of cutTake Rl S upf lk_S putK_S mkK_S S_of S_len S_keys)
structure OrOk (cs ps os : List Nm) (ok : Rl → Prop) (o : DK.TO) : Prop where
  parts : o.2.1.length ≤ 6 ∧ ∀ p ∈ o.2.1, p.1 ∈ cs ∧ 1 ≤ p.2 ∧ p.2 ≤ 10
  rules : ∃ (rs : List Rl) (c : Nm), o.2.2 = rs ++ [Rl.rest c] ∧ c ∈ cs ∧ rs.length ≤ 8 ∧ ∀ r ∈ rs, r.In cs ps os ∧ ok r
abbrev TP : Type := Nm × (List TSII) × (List TSI) × (List Nm) × (List DK.TO) × (List TSS)
def TP.d (p : TP) : R3 := (p.1, p.2.1, p.2.2.1, p.2.2.2.1, p.2.2.2.2.1.map DK.TO.d, [], p.2.2.2.2.2)
structure PlOk (N : List Nm) (ok : Rl → Prop) (t : TP) : Prop where
  nlen : N.length = 12
  nnd : N.Nodup
  low : ∀ n ∈ N, Low n
  nm : t.1 = N.getD 0 []
  cl : ClOk N t.2.1
  pt : PtOk N t.2.2.1
  eat : ∃ k, t.2.2.2.1 = (t.2.1.take k).map (·.1)
  olen : t.2.2.2.2.1.length = 2
  ond : (t.2.2.2.2.1.map (·.1)).Nodup
  osok : ∀ n ∈ t.2.2.2.2.1.map (·.1), Low n
  ord : ∀ o ∈ t.2.2.2.2.1, OrOk (t.2.1.map (·.1)) (t.2.2.1.map (·.1)) (N.drop 10) ok o
  gd : GdOk (t.2.1.map (·.1)) (t.2.2.1.map (·.1)) t.2.2.2.2.2
end FA
namespace FA
open PySem PySem.Spec PyProof.Rows L2 DL FAN
open DK (getD_of cutTake Rl S upf lk_S putK_S mkK_S S_of S_len S_keys)
structure BkOk (t : TP) (b : R4) : Prop where
  sizes : b.1.map (·.1) = t.2.1.map (·.1)
  owed : b.2.1.map (·.1) = t.2.1.map (·.1)
  runs : b.2.2.1.map (·.1) = t.2.1.map (·.1)
  levels : b.2.2.2.1.map (·.1) = t.2.2.1.map (·.1)
  szb : ∀ x ∈ b.1, 0 ≤ x.2 ∧ x.2 ≤ 1000000000000
  owb : ∀ x ∈ b.2.1, 0 ≤ x.2 ∧ x.2 ≤ 30000000000000
  rnb : ∀ x ∈ b.2.2.1, 0 ≤ x.2
  lvb : ∀ x ∈ t.2.2.1, ∃ l, (x.1, l) ∈ b.2.2.2.1 ∧ 0 ≤ l ∧ l ≤ x.2
structure LnOk (ow : Nm) (os : List Nm) (l : List TSSI) : Prop where
  len : l.length ≤ 4
  mem : ∀ x ∈ l, ((x.1 = ow ∧ x.2.1 ∈ os) ∨ (x.2.1 = ow ∧ x.1 ∈ os)) ∧ 1 ≤ x.2.2 ∧ x.2.2 ≤ 1000000000000
  nd : (l.map fun x => (x.1, x.2.1)).Nodup
theorem sum_bd {B : Int} : ∀ {xs : List Int}, (∀ x ∈ xs, 0 ≤ x ∧ x ≤ B) → 0 ≤ xs.sum ∧ xs.sum ≤ B * xs.length
  | [], _ => by simp
  | x :: xs, h => by
    have h1 := h x (by simp)
    have h2 := sum_bd fun y hy => h y (List.mem_cons_of_mem x hy)
    rw [List.sum_cons, List.length_cons]
    have : B * ((xs.length + 1 : Nat) : Int) = B * xs.length + B := by rw [Int.natCast_add, Int.mul_add]; simp
    omega
end FA
namespace FA
open PySem PySem.Spec PyProof.Rows L2 DL FAN
open DK (getD_of cutTake Rl S upf lk_S putK_S mkK_S S_of S_len S_keys)
theorem rngN_cons (lo : Int) (n : Nat) : rngN lo (n + 1) = lo :: rngN (lo + 1) n := by
  unfold rngN
  rw [List.range_succ_eq_map, List.map_cons, List.map_map]
  refine congr (congrArg List.cons (Int.add_zero lo)) (List.map_congr_left fun k _ => ?_)
  show lo + ((k + 1 : Nat) : Int) = lo + 1 + (k : Int)
  omega
def bump : Nat → List Int → List Int
  | 0, xs => xs
  | _, [] => []
  | n + 1, x :: xs => (x + 1) :: bump n xs
def asks (ps : List TSI) (came : Int) : List Int :=
  if 10 < (ps.map fun p => p.2).sum then ps.map fun p => (came * p.2 + 9) / 10
  else bump ((came * (ps.map fun p => p.2).sum / 10) - (ps.map fun p => came * p.2 / 10).sum).toNat (ps.map fun p => came * p.2 / 10)
def over (ps : List TSI) (came : Int) : Int := if 10 < (ps.map fun p => p.2).sum then (asks ps came).sum - came else 0
structure PsOk (ps : List TSI) : Prop where
  len : ps.length ≤ 6
  t : ∀ p ∈ ps, 1 ≤ p.2 ∧ p.2 ≤ 10
theorem PsOk.sum {ps : List TSI} (h : PsOk ps) : 0 ≤ (ps.map fun p => p.2).sum ∧ (ps.map fun p => p.2).sum ≤ 60 := by
  have h1 := h.len
  have := sum_bd (xs := ps.map fun p => p.2) (B := 10) fun x hx => by obtain ⟨y, hy, rfl⟩ := List.mem_map.mp hx; have := h.t y hy; omega
  rw [List.length_map] at this
  omega
def PE : Nat → List TSI → List Int → Int → List TISSII × Int
  | k, p :: ps, a :: as, cash => (((k : Int), cod "part", p.1, a, minI a cash) :: (PE (k + 1) ps as (cash - minI a cash)).1, (PE (k + 1) ps as (cash - minI a cash)).2)
  | _, _, _, cash => ([], cash)
def partRows (ps : List TSI) (came cash : Int) : List TISSII := (PE 0 ps (asks ps came) cash).1 ++ (if 0 < over ps came then [(-1, cod "twice", cod "", (asks ps came).sum, came)] else [])
def partCash (ps : List TSI) (came cash : Int) : Int := (PE 0 ps (asks ps came) cash).2
end FA
namespace FA
open PySem PySem.Spec PyProof.Rows L2 DL FAN
open DK (getD_of cutTake Rl S upf lk_S putK_S mkK_S S_of S_len S_keys)
structure St where
  cash : Int
  sz : Nm → Int
  ow : Nm → Int
  lv : Nm → Int
  ln : TSS → Int
  rows : List TISSII
  mv : List (Nm × Nm × Int)
  sv : List Nm
def served (sv l : List Nm) (need got : Int) : List Nm := if 0 < need ∧ got = need then sv ++ l else sv
def shR (k : Int) : List Nm → List Int → List Int → List TISSII
  | c :: cs, n :: ns, g :: gs => (k, cod "share", c, n, g) :: shR k cs ns gs
  | _, _, _ => []
def shO : (Nm → Int) → List Nm → List Int → (Nm → Int)
  | ow, c :: cs, g :: gs => shO (upf ow c (ow c - g)) cs gs
  | ow, _, _ => ow
def oddg : List Int → List Int → Int → List Int × Int
  | n :: ns, g :: gs, o => if 0 < o ∧ g < n then ((g + 1) :: (oddg ns gs (o - 1)).1, (oddg ns gs (o - 1)).2) else (g :: (oddg ns gs o).1, (oddg ns gs o).2)
  | _, gs, o => (gs, o)
def gots (needs : List Int) (cash : Int) : List Int :=
  if needs.sum ≤ cash then needs else (oddg needs (needs.map fun n => cash * n / needs.sum) (cash - (needs.map fun n => cash * n / needs.sum).sum)).1
def lendStep (own : Nm) (k : Int) (s : St) (o : Nm) (need : Int) (got : Int) : St :=
  { s with cash := s.cash - got, ln := upf s.ln (own, o) (s.ln (own, o) + got), rows := s.rows ++ [(k, cod "lend", o, need, got)], mv := if 0 < got then s.mv ++ [(cod "lend", o, got)] else s.mv }
def step (own : Nm) (mk : Nm → Int) (k : Int) (s : St) : Rl → St
  | .pay c => { s with cash := s.cash - minI (s.ow c) s.cash, ow := upf s.ow c (s.ow c - minI (s.ow c) s.cash), rows := s.rows ++ [(k, cod "pay", c, s.ow c, minI (s.ow c) s.cash)], sv := served s.sv [c] (s.ow c) (minI (s.ow c) s.cash) }
  | .share l => { s with cash := s.cash - (gots (l.map s.ow) s.cash).sum, ow := shO s.ow l (gots (l.map s.ow) s.cash), rows := s.rows ++ shR k l (l.map s.ow) (gots (l.map s.ow) s.cash), sv := served s.sv l (l.map s.ow).sum (gots (l.map s.ow) s.cash).sum }
  | .repay c => { s with cash := s.cash - minI (s.ow c + s.sz c) s.cash, ow := upf s.ow c (s.ow c - minI (minI (s.ow c + s.sz c) s.cash) (s.ow c)), sz := upf s.sz c (s.sz c - (minI (s.ow c + s.sz c) s.cash - minI (minI (s.ow c + s.sz c) s.cash) (s.ow c))), rows := s.rows ++ [(k, cod "repay", c, s.ow c + s.sz c, minI (s.ow c + s.sz c) s.cash)], sv := served s.sv [c] (s.ow c + s.sz c) (minI (s.ow c + s.sz c) s.cash) }
  | .fill p => { s with cash := s.cash - minI (mk p - s.lv p) s.cash, lv := upf s.lv p (s.lv p + minI (mk p - s.lv p) s.cash), rows := s.rows ++ [(k, cod "fill", p, mk p - s.lv p, minI (mk p - s.lv p) s.cash)] }
  | .lend o x => lendStep own k s o (maxI 0 (x - s.ln (own, o))) (minI (maxI 0 (x - s.ln (own, o))) s.cash)
  | .back o => { s with cash := s.cash - minI (s.ln (o, own)) s.cash, ln := upf s.ln (o, own) (s.ln (o, own) - minI (s.ln (o, own)) s.cash), rows := s.rows ++ [(k, cod "back", o, s.ln (o, own), minI (s.ln (o, own)) s.cash)], mv := if 0 < minI (s.ln (o, own)) s.cash then s.mv ++ [(cod "back", o, minI (s.ln (o, own)) s.cash)] else s.mv }
  | .rest c => { s with cash := 0, rows := s.rows ++ [(k, cod "rest", c, s.cash, s.cash)] }
def walk (own : Nm) (mk : Nm → Int) : Int → St → List Rl → St
  | _, s, [] => s
  | k, s, r :: rs => walk own mk (k + 1) (step own mk k s r) rs
def mvD (m : Nm × Nm × Int) : TDDI := (eS m.1, eS m.2.1, m.2.2)
def Sv (d : List (Nm × Bool)) (l : List Nm) : Prop := ∀ c, (lkN d c).isSome = decide (c ∈ l)
abbrev PT : Type := Int × (List (Nm × Int)) × (List (Nm × Int)) × (List (Nm × Int)) × (List (TSS × Int)) × (List TISSII) × (List TDDI) × (List (Nm × Bool))
structure RP (cs ps : List Nm) (n : Nat) (s : St) (x : PT) : Prop where
  cash : x.1 = s.cash
  sz : x.2.1 = S cs s.sz
  ow : x.2.2.1 = S cs s.ow
  lv : x.2.2.2.1 = S ps s.lv
  ln : x.2.2.2.2.1.length ≤ n ∧ ∀ p, (lkN x.2.2.2.2.1 p).getD 0 = s.ln p
  rows : x.2.2.2.2.2.1 = s.rows ∧ s.rows.length ≤ n
  mv : x.2.2.2.2.2.2.1 = s.mv.map mvD ∧ s.mv.length ≤ n
  sv : x.2.2.2.2.2.2.2.length ≤ n ∧ Sv x.2.2.2.2.2.2.2 s.sv
section
variable {cs ps os : List Nm} {own : Nm} {mk : Nm → Int} {k : Int} {n : Nat} {s : St} {x : PT}
end
end FA
namespace FA
open PySem PySem.Spec PyProof.Rows L2 DL FAN
open DK (getD_of cutTake Rl S upf lk_S putK_S mkK_S S_of S_len S_keys)
def gstep (k : Int) (s : St) (g : TSS) : St := { s with lv := upf s.lv g.1 (s.lv g.1 - minI (s.lv g.1) (s.ow g.2)), ow := upf s.ow g.2 (s.ow g.2 - minI (s.lv g.1) (s.ow g.2)), rows := s.rows ++ [(k, cod "guard", g.2, s.ow g.2, minI (s.lv g.1) (s.ow g.2))] }
def gwalk : Nat → St → List TSS → St
  | _, s, [] => s
  | k, s, g :: gs => gwalk (k + 1) (gstep (k : Int) s g) gs
section
variable {cs ps os : List Nm} {own : Nm} {mk : Nm → Int}
end
structure Dr (t : TP) (b : R4) (cs ps : List Nm) (sz ow rn lv mk : Nm → Int) : Prop where
  ecs : t.2.1.map (·.1) = cs
  eps : t.2.2.1 = S ps mk
  cn : cs.Nodup
  pn : ps.Nodup
  cl : 1 ≤ cs.length ∧ cs.length ≤ 6
  pl : ps.length ≤ 3
  b1 : b.1 = S cs sz
  b2 : b.2.1 = S cs ow
  b3 : b.2.2.1 = S cs rn
  b4 : b.2.2.2.1 = S ps lv
  nsz : ∀ c, 0 ≤ sz c
  now : ∀ c, 0 ≤ ow c ∧ ow c ≤ 3000000000000000
  nlv : ∀ p, 0 ≤ lv p ∧ lv p ≤ mk p
def LN (l : List TSSI) (p : TSS) : Int := (lkN (l.map fun x => ((x.1, x.2.1), x.2.2)) p).getD 0
def St0 (o : DK.TO) (came : Int) (sz ow lv : Nm → Int) (l : List TSSI) : St := ⟨partCash o.2.1 came came, sz, ow, lv, LN l, partRows o.2.1 came came, [], []⟩
def fin (own : Nm) (mk : Nm → Int) (gs : List TSS) (o : DK.TO) (came : Int) (sz ow lv : Nm → Int) (l : List TSSI) : St := gwalk 0 (walk own mk (o.2.1.length : Int) (St0 o came sz ow lv l) o.2.2) gs
def out (cs ps : List Nm) (sz rn : Nm → Int) (lost : Int) (s : St) : R10 := (s.rows, (S cs s.sz, S cs s.ow, S cs (fun c => if 0 < sz c ∧ c ∉ s.sv then rn c + 1 else 0), S ps s.lv, lost), s.mv.map mvD)
theorem OrOk.all {cs ps os : List Nm} {ok : Rl → Prop} {o : DK.TO} (h : OrOk cs ps os ok o) : (∀ r ∈ o.2.2, r.In cs ps os ∨ ∃ c ∈ cs, r = .rest c) ∧ o.2.2.length ≤ 9 ∧ 1 ≤ o.2.2.length := by
  obtain ⟨rs, c, e, h1, h2, h3⟩ := h.rules
  rw [e]
  refine ⟨fun r hr => ?_, by simp; omega, by simp⟩
  rcases List.mem_append.mp hr with hr | hr
  · exact .inl (h3 r hr).1
  · exact .inr ⟨c, h1, List.mem_singleton.mp hr⟩
end FA
namespace FA
open PySem PySem.Spec PyProof.Rows L2 DL FAN
open DK (getD_of cutTake Rl S upf lk_S putK_S mkK_S S_of S_len S_keys)
structure Few (n : Nat) (s : St) : Prop where
  rows : s.rows.length ≤ n
  sv : s.sv.length ≤ n
  mv : s.mv.length ≤ n
theorem aL {n : Nat} {α : Type} {e : α → D} {xs : List α} (hl : xs.length ≤ 1000000) (h : ∀ x ∈ xs, LW.aOk n (e x) = true) : LW.aOk (n + 1) (eLs e xs) = true := by
  unfold LW.aOk
  rw [Bool.and_eq_true]
  refine ⟨decide_eq_true (by rw [List.length_map]; exact hl), LW.aOks_all.mpr fun d hd => ?_⟩
  obtain ⟨x, hx, rfl⟩ := List.mem_map.mp hd
  exact h x hx
theorem aT {n : Nat} {ds : List D} (hl : ds.length ≤ 1000000) (h : ∀ x ∈ ds, LW.aOk n x = true) : LW.aOk (n + 1) (.tup ds) = true := by
  unfold LW.aOk
  rw [Bool.and_eq_true]
  exact ⟨decide_eq_true hl, LW.aOks_all.mpr h⟩
theorem aI {n : Nat} {i : Int} : LW.aOk n (.int i) = true := by unfold LW.aOk; rfl
theorem aS {n : Nat} {w : Nm} : LW.aOk n (eS w) = true := by unfold LW.aOk; rfl
theorem aT2 {n : Nat} {a b : D} (h1 : LW.aOk n a = true) (h2 : LW.aOk n b = true) : LW.aOk (n + 1) (.tup [a, b]) = true := aT (by simp) fun d hd => by
  simp only [List.mem_cons, List.not_mem_nil, or_false] at hd
  rcases hd with rfl | rfl <;> assumption
theorem alike_ok {d : D} (h : LW.aOk 7 d = true) : opB (LW.phi_law_alike 8 [d, d]) = some true := by
  rw [LW.alike_refl 7 d h]; rfl
section
variable {δ : Type}
end
end FA
namespace DL
open PySem PySem.Spec PyProof.Rows L2
section
variable {F : SF} {G : GF} {it : Env → Option (List D × Env)} {B : SF} {Q : Fl → Env → Prop} {env e1 : Env} {ds : List D} {σ ρ α : Type}
end
end DL
namespace DL
open PySem PySem.Spec PyProof.Rows L2
section
variable {α : Type} {E : α → T} {env e e1 e' : Env} {i j : Nat} {f fk : EF} {po fo : PF} {P : List Stp} {a : Int} {Q : Fl → Env → Prop} {B F : SF}
abbrev oH (E : α → T) (xs : List α) (j : Nat) (u : T) : T := .lst ((xs.map E).set j u)
end
end DL
namespace DL
open PySem PySem.Spec PyProof.Rows L2
section
variable {α β : Type} {env e : Env} {f : EF}
theorem i_ky {kk : β → Key} {dd : α → D} {ek : β → D} {kv : List (β × α)} (hk : ∀ b, kD (kk b) = ek b) (h : f env = some (.p (.dic (kv.map fun p => (kk p.1, dd p.2))), e)) : iKy f env = some ((kv.map Prod.fst).map ek, e) := by
  unfold iKy iDic; rw [h]
  show some ((kv.map fun p => (kk p.1, dd p.2)).map _, e) = _
  rw [List.map_map, List.map_map]
  exact congrArg (fun z => some (z, e)) (List.map_congr_left fun p _ => hk p.1)
end
end DL
namespace DL
open PySem PySem.Spec PyProof.Rows L2
section
variable {α β σ : Type} {env e : Env} {it : IF} {G : GF} {test : CF}
def mapSt (f : α → σ → Option (β × σ)) : List α → σ → Option (List β × σ)
  | [], s => some ([], s)
  | x :: xs, s => (f x s).bind fun r => (mapSt f xs r.2).map fun q => (r.1 :: q.1, q.2)
def compS (f : α → σ → Option (β × σ)) (xs : List α) (s : σ) : Option (List β × σ) := if xs.length ≤ 1000000 then mapSt f xs s else none
theorem compS_go {own : List Nat} {elt : EF} {dd : α → D} {E : β → T} {fn : α → σ → Option (β × σ)} (I : σ → Env)
    (hb : ∀ x s y s', fn x s = some (y, s') → ∃ e1, G (.p (dd x)) (I s) = some e1 ∧ ∃ e2, test e1 = some (true, e2) ∧ ∃ e3, elt e2 = some (E y, e3) ∧ wipeE e3 own = I s') :
    ∀ (xs : List α) (s : σ) (ys : List β) (s2 : σ), mapSt fn xs s = some (ys, s2) → compD own G test elt (xs.map dd) (I s) = some (ys.map E, I s2)
  | [], s, ys, s2, h => by cases h; rfl
  | x :: xs, s, ys, s2, h => by
    obtain ⟨⟨y, s1⟩, k1, k2⟩ := obind h
    obtain ⟨⟨zs, s3⟩, k3, k4⟩ := omap k2
    cases k4
    obtain ⟨e1, h1, e2, h2, e3, h5, h6⟩ := hb x s y s1 k1
    rw [List.map_cons, comp_c, h1, bindS, kCp1_q, h2, bindS, kCp2_t, h5, bindS, kCp3_q, h6, compS_go I hb xs s1 zs s3 k3, mapS, kCp4_q]; rfl
theorem e_compS {own : List Nat} {elt : EF} {dd : α → D} {E : β → T} {fn : α → σ → Option (β × σ)} {xs : List α} {s : σ} {z : List β × σ} (I : σ → Env) (hi : it env = some (xs.map dd, e)) (hw : wipeE e own = I s) (h : compS fn xs s = some z)
    (hb : ∀ x s y s', fn x s = some (y, s') → ∃ e1, G (.p (dd x)) (I s) = some e1 ∧ ∃ e2, test e1 = some (true, e2) ∧ ∃ e3, elt e2 = some (E y, e3) ∧ wipeE e3 own = I s') :
    eComp own it G test elt env = some (oE E z.1, I z.2) := by
  unfold compS at h
  split at h
  · rename_i c
    rw [eComp_q, hi, bindS, kComp_q, if_pos (by rw [List.length_map]; exact c), hw, compS_go I hb xs s z.1 z.2 h]; rfl
  · cases h
end
section
variable {α : Type} {E : α → T} {env e e1 e2 e' : Env} {i : Nat} {f fk : EF} {po : PF}
end
section
variable {α : Type} {E : α → T} {env w e' : Env} {i j : Nat} {B R : SF} {g : α → Option α} {Q : Fl → Env → Prop}
theorem loopP_map (hr : ∀ x, isRT (E x) = true) (hl : j < w.length) (hb : ∀ x y, g x = some y → Wp (B (w.set j (some (E x)))) fun fl e2 => fl = .nx ∧ e2[j]? = some (some (E y)) ∧ e2.set j none = w) :
    ∀ (xs ys : List α) (done : List T), mapO g xs = some ys → loopP j B done (xs.map E) w = some (.nx, done ++ ys.map E, w)
  | [], ys, done, h => by
    cases h
    show some (Fl.nx, done, w) = _
    rw [List.map_nil, List.append_nil]
  | x :: xs, ys, done, h => by
    obtain ⟨y, k1, k2⟩ := obind h
    obtain ⟨zs, k3, rfl⟩ := omap k2
    obtain ⟨fl, e2, q1, rfl, q2, q3⟩ := hb x y k1
    have ih := loopP_map hr hl hb xs zs (done ++ [E y]) k3
    show (if j < w.length ∧ isRT (E x) = true then _ else _) = _
    rw [if_pos ⟨hl, hr x⟩, q1]
    show (match e2[j]? with | some (some t') => loopP j B (done ++ [t']) (xs.map E) (e2.set j none) | _ => none) = _
    rw [q2]
    show loopP j B (done ++ [E y]) (xs.map E) (e2.set j none) = _
    rw [q3, ih, List.append_assoc]; rfl
theorem w_forP {xs ys : List α} {envB : α → Env} (h0 : env[i]? = some (some (oE E xs))) (hw : env.set i none = w) (hl : j < w.length) (hr : ∀ x, isRT (E x) = true) (hB : ∀ x, w.set j (some (E x)) = envB x) (hm : mapO g xs = some ys) (he : w.set i (some (oE E ys)) = e')
    (hb : ∀ x y, g x = some y → Wp (B (envB x)) fun fl e2 => fl = .nx ∧ e2[j]? = some (some (E y)) ∧ e2.set j none = w) (k : Wp (R e') Q) : Wp (sSeq (sForP i j B) R env) Q := by
  refine w_seq (e1 := e') ?_ k
  subst he
  have ha : atL env i = some (xs.map E) := by unfold atL; rw [h0]
  unfold sForP
  rw [ha]
  show (loopP j B [] (xs.map E) (env.set i none)).map _ = _
  rw [hw, loopP_map hr hl (fun x y h => by rw [hB]; exact hb x y h) xs ys [] hm]
  rfl
end
end DL
namespace DL
open PySem PySem.Spec PyProof.Rows L2
end DL
namespace DL
open PySem PySem.Spec PyProof.Rows L2
section
variable {α : Type}
end
end DL
namespace DL
open PySem PySem.Spec PyProof.Rows L2
section
variable {α : Type}
end
end DL
namespace DL
open PySem PySem.Spec PyProof.Rows L2
section
variable {α β : Type}
end
end DL
namespace DL
open PySem PySem.Spec PyProof.Rows L2
section
variable {α β : Type}
end
end DL
namespace DL
open PySem PySem.Spec PyProof.Rows L2
end DL
namespace DL
open PySem PySem.Spec PyProof.Rows L2
end DL
namespace DL
open PySem PySem.Spec PyProof.Rows L2
end DL
namespace DL
open PySem PySem.Spec PyProof.Rows L2
section
variable {σ ρ : Type} {c : CF} {F B : SF} {Q : Fl → Env → Prop}
end
end DL
namespace DL
open PySem PySem.Spec PyProof.Rows L2
end DL
namespace DL
open PySem PySem.Spec PyProof.Rows L2
end DL
namespace DL
open PySem PySem.Spec PyProof.Rows L2
section
variable {env e : Env} {f : EF} {t : T} {α β : Type} [DecidableEq β] {kk : β → List Key} {dd : α → D}
end
end DL
namespace DL
open PySem PySem.Spec PyProof.Rows L2
section
variable {env e e1 e2 e3 e' : Env} {f fa fb fc fi fo fk fx fe : EF} {ra : AF} {po : PF} {P : List Stp} {t t1 t2 u v r : T} {ts us : List T} {d : D} {i : Nat}
section
variable [DecidableEq β] {kk : β → NK} {dd : α → D}
end
end
theorem map_inj {α β : Type} {f : α → β} (hf : ∀ a b, f a = f b → a = b) : ∀ a b : List α, a.map f = b.map f → a = b
  | [], [], _ => rfl
  | [], _ :: _, h => by cases h
  | _ :: _, [], h => by cases h
  | x :: a, y :: b, h => by
    have h' := List.cons.inj h
    rw [hf _ _ h'.1, map_inj hf a b h'.2]
end DL
namespace DL
open PySem PySem.Spec PyProof.Rows L2
end DL
namespace DL
open PySem PySem.Spec PyProof.Rows L2
end DL
namespace DL
open PySem PySem.Spec PyProof.Rows L2
abbrev kSIS (p : Nm × Int × Nm) : List Key := [.inr (sg p.1), .inl p.2.1, .inr (sg p.2.2)]
theorem kSIS_inj (p q : Nm × Int × Nm) (h : kSIS p = kSIS q) : p = q := by
  obtain ⟨a, b, c⟩ := p
  obtain ⟨x, y, z⟩ := q
  unfold kSIS at h
  simp only [List.cons.injEq, Sum.inr.injEq, Sum.inl.injEq, and_true] at h
  obtain ⟨h1, h2, h3⟩ := h
  rw [sg_inj.mp h1, h2, sg_inj.mp h3]
theorem keySIS (p : Nm × Int × Nm) : keyTT (.p (eT3 eS D.int eS p)) = some (kSIS p) := rfl
theorem w_putY {us : List T} {u : T} {env e e1 e' : Env} {i k : Nat} {a : Int} {fi f : EF} (h : f env = some (u, e)) (h0 : e[i]? = some (some (.lst us))) (hj : fi e = some (.p (.int a), e1)) (h1 : e1[i]? = some (some (.lst us))) (hk : ixN us.length a = some k) (he : e1.set i (some (.lst (us.set k u))) = e') : sPut i fi f env = some (.nx, e') := by
  subst he
  have a0 : atL e i = some us := by unfold atL; rw [h0]
  have a1 : atL e1 i = some us := by unfold atL; rw [h1]
  unfold sPut
  rw [h, bindS, a0, bindS, hj, bindS, show asI (T.p (D.int a)) = some a from rfl, bindS, a1, bindS, hk]
  rfl
theorem w_extE {α : Type} {E : α → T} {xs ys zs : List α} {env e e' : Env} {i : Nat} {f : EF} (h0 : env[i]? = some (some (oE E xs))) (hf : f env = some (oE E ys, e)) (h1 : e[i]? = some (some (oE E xs))) (h : extL xs ys = some zs) (he : e.set i (some (oE E zs)) = e') : sExtP i (pNm i) f env = some (.nx, e') := by
  subst he
  unfold extL at h
  split at h
  · rename_i hl
    cases h
    unfold sExtP
    rw [p_nm h0]
    show (atP env i []).bind _ = _
    rw [at_nm h0]
    show (f env).bind _ = _
    rw [hf]
    show (atP e i []).bind _ = _
    rw [at_nm h1]
    show (if (xs.map E).length + (ys.map E).length < 16000000 then some (Fl.nx, putP e i [] (.lst (xs.map E ++ ys.map E))) else none) = _
    rw [if_pos (by simpa using hl), put_nm h1]
    show _ = some (Fl.nx, e.set i (some (oE E (xs ++ ys))))
    unfold oE
    rw [List.map_append]
  · cases h
section
variable {α β σ : Type} {env e : Env} {it : IF} {G : GF} {test : CF}
variable {α : Type} {E : α → T} {env e e1 e2 e' : Env} {i : Nat} {f fk : EF} {po : PF}
variable {α : Type} {E : α → T} {env w e' : Env} {i j : Nat} {B R : SF} {g : α → Option α} {Q : Fl → Env → Prop}
theorem loopP_mapC (hr : ∀ x, isRT (E x) = true) (hl : j < w.length) (hb : ∀ x y, g x = some y → Wp (B (w.set j (some (E x)))) fun fl e2 => (fl = .nx ∨ fl = .ct) ∧ e2[j]? = some (some (E y)) ∧ e2.set j none = w) :
    ∀ (xs ys : List α) (done : List T), mapO g xs = some ys → loopP j B done (xs.map E) w = some (.nx, done ++ ys.map E, w)
  | [], ys, done, h => by
    cases h
    show some (Fl.nx, done, w) = _
    rw [List.map_nil, List.append_nil]
  | x :: xs, ys, done, h => by
    obtain ⟨y, k1, k2⟩ := obind h
    obtain ⟨zs, k3, rfl⟩ := omap k2
    obtain ⟨fl, e2, q1, qf, q2, q3⟩ := hb x y k1
    have ih := loopP_mapC hr hl hb xs zs (done ++ [E y]) k3
    show (if j < w.length ∧ isRT (E x) = true then _ else _) = _
    rw [if_pos ⟨hl, hr x⟩, q1]
    have go : (match e2[j]? with | some (some t') => loopP j B (done ++ [t']) (xs.map E) (e2.set j none) | _ => none) = some (Fl.nx, done ++ (y :: zs).map E, w) := by
      rw [q2]
      show loopP j B (done ++ [E y]) (xs.map E) (e2.set j none) = _
      rw [q3, ih, List.append_assoc]; rfl
    rcases qf with rfl | rfl
    · exact go
    · exact go
theorem w_forPC {xs ys : List α} {envB : α → Env} (h0 : env[i]? = some (some (oE E xs))) (hw : env.set i none = w) (hl : j < w.length) (hr : ∀ x, isRT (E x) = true) (hB : ∀ x, w.set j (some (E x)) = envB x) (hm : mapO g xs = some ys) (he : w.set i (some (oE E ys)) = e')
    (hb : ∀ x y, g x = some y → Wp (B (envB x)) fun fl e2 => (fl = .nx ∨ fl = .ct) ∧ e2[j]? = some (some (E y)) ∧ e2.set j none = w) (k : Wp (R e') Q) : Wp (sSeq (sForP i j B) R env) Q := by
  refine w_seq (e1 := e') ?_ k
  subst he
  have ha : atL env i = some (xs.map E) := by unfold atL; rw [h0]
  unfold sForP
  rw [ha]
  show (loopP j B [] (xs.map E) (env.set i none)).map _ = _
  rw [hw, loopP_mapC hr hl (fun x y h => by rw [hB]; exact hb x y h) xs ys [] hm]
  rfl
end
end DL
namespace DL
open PySem PySem.Spec PyProof.Rows L2
section
variable {α : Type} {G : GF} {F : SF} {f : EF} {env e1 : Env} {E : α → T} {ok : α → Option Unit} {Q : Fl → Env → Prop} {B : SF}
def allU (f : α → Option Unit) : List α → Option Unit
  | [] => some ()
  | x :: xs => (f x).bind fun _ => allU f xs
theorem loopU_go (R : Env → Prop) (hb : ∀ x env, R env → ok x = some () → ∃ e1, G (E x) env = some e1 ∧ ∃ fl e2, F e1 = some (fl, e2) ∧ fl = .nx ∧ R e2) : ∀ (xs : List α) (env : Env), R env → allU ok xs = some () → ∃ e2, loopT G F (xs.map E) env = some (.nx, e2) ∧ R e2
  | [], env, h, _ => ⟨env, rfl, h⟩
  | x :: xs, env, h, ha => by
    obtain ⟨⟨⟩, h1, h2⟩ := obind (show (ok x).bind (fun _ => allU ok xs) = some () from ha)
    obtain ⟨e1, g1, fl, e2, g2, g3, g4⟩ := hb x env h h1
    subst g3
    obtain ⟨e3, q1, q2⟩ := loopU_go R hb xs e2 g4 h2
    refine ⟨e3, ?_, q2⟩
    show (G (E x) env).bind _ = _
    rw [g1]
    show (F e1).bind _ = _
    rw [g2]
    exact q1
theorem w_forUL {xs : List α} (R : Env → Prop) (h : f env = some (oE E xs, e1)) (h0 : R e1) (ha : allU ok xs = some ()) (hb : ∀ x env, R env → ok x = some () → ∃ e1, G (E x) env = some e1 ∧ ∃ fl e2, F e1 = some (fl, e2) ∧ fl = .nx ∧ R e2) (k : ∀ e, R e → Wp (B e) Q) : Wp (sSeq (sForUL f G F) B env) Q := by
  obtain ⟨e2, q1, q2⟩ := loopU_go R hb xs e1 h0 ha
  refine w_seq (e1 := e2) ?_ (k e2 q2)
  show (f env).bind _ = _
  rw [h]; exact q1
end
end DL
namespace K15
open PySem PySem.Spec PyProof.Rows L2 DL
abbrev PLn : Type := List (Int × Int)
abbrev PSn : Type := List (Nm × PLn)
def inT (l : PLn) : T := oK kI D.int l
def psE (x : Nm × PLn) : Key × T := (kS x.1, inT x.2)
def psT (ps : PSn) : T := .dic (ps.map psE)
def poN (l : PLn) (d : Int) : PLn := l.filter fun p => decide (p.1 ≠ d)
def setS (ps : PSn) (n : Nm) (l : PLn) : PSn := ps.map fun x => if x.1 = n then (x.1, l) else x
theorem setS_keys (ps : PSn) (n : Nm) (l : PLn) : (setS ps n l).map (·.1) = ps.map (·.1) := by
  unfold setS
  rw [List.map_map]
  refine List.map_congr_left fun x _ => ?_
  show (if x.1 = n then (x.1, l) else x).1 = x.1
  split <;> rfl
theorem lk_cons (x : Nm × PLn) (ps : PSn) (n : Nm) : lkN (x :: ps) n = if x.1 = n then some x.2 else lkN ps n := by
  unfold lkN
  by_cases h : x.1 = n
  · rw [List.find?_cons_of_pos (by exact decide_eq_true h), if_pos h]; rfl
  · rw [List.find?_cons_of_neg (by simpa using h), if_neg h]
theorem kS_inj2 {a b : Nm} (h : kS a = kS b) : a = b := sg_inj.mp (Sum.inr.inj h)
theorem val_ps (n : Nm) : ∀ ps : PSn, valT (ps.map psE) (kS n) = (lkN ps n).map inT
  | [] => rfl
  | x :: ps => by
    rw [List.map_cons, lk_cons]
    show (if kS x.1 = kS n then some (inT x.2) else valT (ps.map psE) (kS n)) = _
    by_cases h : x.1 = n
    · rw [if_pos (by rw [h]), if_pos h]; rfl
    · rw [if_neg (fun z => h (kS_inj2 z)), if_neg h, val_ps n ps]
theorem setS_no {n : Nm} {l : PLn} : ∀ {ps : PSn}, n ∉ ps.map (·.1) → setS ps n l = ps
  | [], _ => rfl
  | x :: ps, h => by
    rw [List.map_cons, List.mem_cons, not_or] at h
    show (if x.1 = n then (x.1, l) else x) :: setS ps n l = _
    rw [if_neg (fun z => h.1 z.symm), setS_no h.2]
theorem set_ps (n : Nm) (l : PLn) : ∀ {ps : PSn}, (ps.map (·.1)).Nodup → setT (ps.map psE) (kS n) (inT l) = (setS ps n l).map psE
  | [], _ => rfl
  | x :: ps, hn => by
    rw [List.map_cons] at hn
    obtain ⟨n1, n2⟩ := List.nodup_cons.mp hn
    show (if kS x.1 = kS n then (kS x.1, inT l) :: ps.map psE else (kS x.1, inT x.2) :: setT (ps.map psE) (kS n) (inT l)) = ((if x.1 = n then (x.1, l) else x) :: setS ps n l).map psE
    by_cases h : x.1 = n
    · rw [if_pos (by rw [h]), if_pos h, setS_no (by rw [← h]; exact n1)]; rfl
    · rw [if_neg (fun z => h (kS_inj2 z)), if_neg h, set_ps n l n2]; rfl
section
variable {env e : DL.Env} {ps : PSn} {n : Nm} {l l2 : PLn} {i : Nat} {fk fx f : EF}
theorem key_at (h0 : env[i]? = some (some (psT ps))) (hk : fk env = some (.p (eS n), env)) (hl : lkN ps n = some l) : pKey i (pNm i) fk env = some ([.key (kS n)], env) := by
  unfold pKey
  rw [p_nm h0]
  show (fk env).bind _ = _
  rw [hk]
  show (atP env i []).bind _ = _
  rw [at_nm h0]
  show (valT (ps.map psE) (kS n)).map _ = _
  rw [val_ps, hl]; rfl
theorem at_key (h0 : env[i]? = some (some (psT ps))) (hl : lkN ps n = some l) : atP env i [.key (kS n)] = some (inT l) := by
  unfold atP
  rw [h0]
  show (valT (ps.map psE) (kS n)).bind _ = _
  rw [val_ps, hl]; rfl
theorem put_key (hn : (ps.map (·.1)).Nodup) (h0 : env[i]? = some (some (psT ps))) (hl : lkN ps n = some l) : putP env i [.key (kS n)] (inT l2) = env.set i (some (psT (setS ps n l2))) := by
  rw [putP_eq h0]
  show env.set i (some (match valT (ps.map psE) (kS n) with | some c => T.dic (setT (ps.map psE) (kS n) (inT l2)) | none => psT ps)) = _
  rw [val_ps, hl]
  show env.set i (some (T.dic (setT (ps.map psE) (kS n) (inT l2)))) = _
  rw [set_ps n l2 hn]; rfl
theorem inT_eq (l : PLn) : inT l = .dic (l.map fun x => (kI x.1, T.p (.int x.2))) := by
  show T.dic (pairsT (l.map fun p => (kI p.1, D.int p.2))) = _
  unfold pairsT
  rw [List.map_map]; rfl
theorem lkI_cons (x : Int × Int) (l : PLn) (d : Int) : lkN (x :: l) d = if x.1 = d then some x.2 else lkN l d := by
  unfold lkN
  by_cases h : x.1 = d
  · rw [List.find?_cons_of_pos (by exact decide_eq_true h), if_pos h]; rfl
  · rw [List.find?_cons_of_neg (by simpa using h), if_neg h]
theorem val_in (d : Int) : ∀ l : PLn, valT (l.map fun x => (kI x.1, T.p (.int x.2))) (kI d) = (lkN l d).map fun c => .p (.int c)
  | [] => rfl
  | x :: l => by
    rw [List.map_cons, lkI_cons]
    show (if kI x.1 = kI d then some (T.p (.int x.2)) else valT (l.map fun x => (kI x.1, T.p (.int x.2))) (kI d)) = _
    by_cases h : x.1 = d
    · rw [if_pos (by rw [h]), if_pos h]; rfl
    · rw [if_neg (fun z => h (Sum.inl.inj z)), if_neg h, val_in d l]
theorem drop_in (d : Int) (l : PLn) : dropT (l.map fun x => (kI x.1, T.p (.int x.2))) (kI d) = (poN l d).map fun x => (kI x.1, T.p (.int x.2)) := by
  unfold dropT poN
  rw [List.filter_map]
  congr 1
  refine List.filter_congr fun x _ => ?_
  by_cases h : x.1 = d
  · simp [Function.comp, h]
  · have : kI x.1 ≠ kI d := fun z => h (Sum.inl.inj z)
    simp [Function.comp, h]
theorem lk_none {d : Int} : ∀ {l : PLn}, lkN l d = none → poN l d = l
  | [], _ => rfl
  | x :: l, h => by
    rw [lkI_cons] at h
    by_cases c : x.1 = d
    · rw [if_pos c] at h; cases h
    · rw [if_neg c] at h
      unfold poN
      rw [List.filter_cons_of_pos (by exact decide_eq_true c)]
      congr 1
      exact lk_none h
theorem lk_mem' {n : Nm} {l : PLn} : ∀ {ps : PSn}, lkN ps n = some l → (n, l) ∈ ps
  | [], h => by cases h
  | x :: ps, h => by
    rw [lk_cons] at h
    by_cases c : x.1 = n
    · rw [if_pos c] at h
      cases h
      rw [← c]; simp
    · rw [if_neg c] at h
      exact List.mem_cons_of_mem _ (lk_mem' h)
theorem setS_same {n : Nm} {l : PLn} : ∀ {ps : PSn}, (ps.map (·.1)).Nodup → lkN ps n = some l → setS ps n l = ps
  | [], _, _ => rfl
  | x :: ps, hn, h => by
    rw [List.map_cons] at hn
    obtain ⟨n1, n2⟩ := List.nodup_cons.mp hn
    rw [lk_cons] at h
    show (if x.1 = n then (x.1, l) else x) :: setS ps n l = _
    by_cases c : x.1 = n
    · rw [if_pos c] at h
      cases h
      rw [if_pos c, setS_no (by rw [← c]; exact n1)]
    · rw [if_neg c] at h
      rw [if_neg c, setS_same n2 h]
theorem setS_two (ps : PSn) (n : Nm) (a b : PLn) : setS (setS ps n a) n b = setS ps n b := by
  unfold setS
  rw [List.map_map]
  refine List.map_congr_left fun x _ => ?_
  show (if (if x.1 = n then (x.1, a) else x).1 = n then ((if x.1 = n then (x.1, a) else x).1, b) else (if x.1 = n then (x.1, a) else x)) = _
  by_cases c : x.1 = n
  · simp [c]
  · simp [c]
theorem lk_setS {n : Nm} {l a : PLn} : ∀ {ps : PSn}, lkN ps n = some a → lkN (setS ps n l) n = some l
  | [], h => by cases h
  | x :: ps, h => by
    rw [lk_cons] at h
    show lkN ((if x.1 = n then (x.1, l) else x) :: setS ps n l) n = _
    by_cases c : x.1 = n
    · rw [if_pos c, lk_cons, if_pos c]
    · rw [if_neg c] at h
      rw [if_neg c, lk_cons, if_neg c]
      exact lk_setS h
theorem e_pop {d : Int} (hn : (ps.map (·.1)).Nodup) (h0 : env[i]? = some (some (psT ps))) (hk : fk env = some (.p (eS n), env)) (hl : lkN ps n = some l) (hd : f env = some (.p (.int d), env)) :
    ePop i (pKey i (pNm i) fk) f (eC (.int 0)) env = some (.p (.int ((lkN l d).getD 0)), env.set i (some (psT (setS ps n (poN l d))))) := by
  unfold ePop
  rw [key_at h0 hk hl]
  show (atP env i [.key (kS n)]).bind _ = _
  rw [at_key h0 hl, inT_eq]
  show (f env).bind _ = _
  rw [hd]
  show (atP env i [.key (kS n)]).bind _ = _
  rw [at_key h0 hl, inT_eq]
  show some (match valT (l.map fun x : Int × Int => (kI x.1, T.p (.int x.2))) (kI d) with
    | some u => (u, putP env i [.key (kS n)] (.dic (dropT (l.map fun x : Int × Int => (kI x.1, T.p (.int x.2))) (kI d))))
    | none => (.p (.int 0), env)) = _
  rw [val_in]
  cases q : lkN l d with
  | none =>
    rw [lk_none q, setS_same hn hl]
    show some (T.p (D.int 0), env) = _
    rw [set_back h0]; rfl
  | some c =>
    show some (T.p (D.int c), putP env i [.key (kS n)] (.dic (dropT _ (kI d)))) = _
    rw [drop_in, ← inT_eq, put_key hn h0 hl]; rfl
theorem e_dk {fo : EF} (h0 : fo env = some (psT ps, env)) (hk : fk env = some (.p (eS n), env)) (hl : lkN ps n = some l) : eDk fo fk env = some (inT l, env) := by
  unfold eDk
  rw [h0]
  show (fk env).bind _ = _
  rw [hk]
  show (valT (ps.map psE) (kS n)).map _ = _
  rw [val_ps, hl]; rfl
theorem e_vals (h : f env = some (inT l, e)) : eValsL f env = some (oL D.int (l.map (·.2)), e) := by
  unfold eValsL
  rw [h]
  show (dicT (unb (inT l))).map _ = _
  have : dicT (unb (inT l)) = some (l.map fun p => (kI p.1, D.int p.2)) := dic_o l
  rw [this]
  have e1 : (l.map fun p => (kI p.1, D.int p.2)).map (·.2) = (l.map (·.2)).map D.int := by
    rw [List.map_map, List.map_map]; rfl
  show some (T.lst (((l.map fun p => (kI p.1, D.int p.2)).map (·.2)).map T.p), e) = _
  rw [e1]
theorem any_in (d : Int) (l : PLn) : ((l.map fun x => (kI x.1, T.p (.int x.2))).any fun kv => decide (kv.1 = kI d)) = l.any fun p => decide (p.1 = d) := by
  rw [List.any_map]
  congr 1
  funext x
  show decide (kI x.1 = kI d) = decide (x.1 = d)
  by_cases h : x.1 = d
  · rw [decide_eq_true h, decide_eq_true (by rw [h])]
  · rw [decide_eq_false h, decide_eq_false (fun z => h (Sum.inl.inj z))]
theorem put_in (d c : Int) (l : PLn) : putT (l.map fun x => (kI x.1, T.p (.int x.2))) (kI d) (.p (.int c)) = (putN l d c).map fun x => (kI x.1, T.p (.int x.2)) := by
  unfold putT putN
  rw [any_in]
  split
  · rw [List.map_map, List.map_map]
    refine List.map_congr_left fun x _ => ?_
    show (if kI x.1 = kI d then (kI x.1, T.p (D.int c)) else (kI x.1, T.p (D.int x.2))) = (fun x : Int × Int => (kI x.1, T.p (D.int x.2))) (if x.1 = d then (x.1, c) else x)
    by_cases h : x.1 = d
    · rw [if_pos (by rw [h]), if_pos h]
    · rw [if_neg (fun z => h (Sum.inl.inj z)), if_neg h]
  · rw [List.map_append]; rfl
theorem w_putIn {d c : Int} (hn : (ps.map (·.1)).Nodup) (h0 : env[i]? = some (some (psT ps))) (hk : fk env = some (.p (eS n), env)) (hl : lkN ps n = some l) (hll : l.length ≤ 1000000) (hd : fx env = some (.p (.int d), env)) (hf : f env = some (.p (.int c), env)) :
    sPutP i (pKey i (pNm i) fk) fx f env = some (.nx, env.set i (some (psT (setS ps n (putN l d c))))) := by
  unfold sPutP
  rw [hf]
  show (pKey i (pNm i) fk env).bind _ = _
  rw [key_at h0 hk hl]
  show (fx env).bind _ = _
  rw [hd]
  show (atP env i [.key (kS n)]).bind _ = _
  rw [at_key h0 hl, inT_eq]
  show (if (l.map fun x => (kI x.1, T.p (.int x.2))).length < 16000000 ∧ true = true then some (Fl.nx, putP env i [.key (kS n)] (.dic (putT (l.map fun x => (kI x.1, T.p (.int x.2))) (kI d) (.p (.int c))))) else none) = _
  rw [if_pos ⟨by rw [List.length_map]; omega, rfl⟩, put_in, ← inT_eq, put_key hn h0 hl]
theorem any_ps (n : Nm) (ps : PSn) : ((ps.map psE).any fun kv => decide (kv.1 = kS n)) = ps.any fun p => decide (p.1 = n) := by
  rw [List.any_map]
  congr 1
  funext x
  show decide (kS x.1 = kS n) = decide (x.1 = n)
  by_cases h : x.1 = n
  · rw [decide_eq_true h, decide_eq_true (by rw [h])]
  · rw [decide_eq_false h, decide_eq_false (fun z => h (kS_inj2 z))]
theorem cnt_ps (n : Nm) : ∀ {ps : PSn}, (ps.map (·.1)).Nodup → cntT (ps.map psE) (kS n) ≤ 1
  | [], _ => Nat.zero_le _
  | x :: ps, hn => by
    rw [List.map_cons] at hn
    obtain ⟨n1, n2⟩ := List.nodup_cons.mp hn
    have ih := cnt_ps n n2
    unfold cntT at ih ⊢
    rw [List.map_cons]
    by_cases h : x.1 = n
    · rw [List.filter_cons_of_pos (by show decide (kS x.1 = kS n) = true; rw [h]; exact decide_eq_true rfl)]
      have : (ps.map psE).filter (fun kv => decide (kv.1 = kS n)) = [] := List.filter_eq_nil_iff.mpr fun kv hkv z => by
        obtain ⟨y, hy, rfl⟩ := List.mem_map.mp hkv
        have e := kS_inj2 (of_decide_eq_true z)
        exact n1 (List.mem_map.mpr ⟨y, hy, by rw [h]; exact e⟩)
      rw [this]; exact Nat.le_refl _
    · rw [List.filter_cons_of_neg (by show ¬ decide (kS x.1 = kS n) = true; rw [decide_eq_false (fun z => h (kS_inj2 z))]; simp)]
      exact ih
theorem w_putOut (hn : (ps.map (·.1)).Nodup) (hpl : ps.length ≤ 1000000) (h0 : env[i]? = some (some (psT ps))) (hk : fk env = some (.p (eS n), env)) (hl : lkN ps n = some l) (hf : f env = some (inT l2, env)) :
    sPutP i (pNm i) fk f env = some (.nx, env.set i (some (psT (setS ps n l2)))) := by
  have hany : (ps.any fun p => decide (p.1 = n)) = true := List.any_eq_true.mpr ⟨_, lk_mem' hl, decide_eq_true rfl⟩
  unfold sPutP
  rw [hf]
  show (pNm i env).bind _ = _
  rw [p_nm h0]
  show (fk env).bind _ = _
  rw [hk]
  show (atP env i []).bind _ = _
  rw [at_nm h0]
  show (if (ps.map psE).length < 16000000 ∧ (isP (inT l2) || decide (cntT (ps.map psE) (kS n) ≤ 1)) = true then some (Fl.nx, putP env i [] (.dic (putT (ps.map psE) (kS n) (inT l2)))) else none) = _
  rw [if_pos ⟨by rw [List.length_map]; omega, by rw [decide_eq_true (cnt_ps n hn), Bool.or_true]⟩, put_nm h0]
  congr 3
  congr 1
  unfold putT
  rw [any_ps, if_pos hany]
  show T.dic ((ps.map psE).map _) = T.dic ((setS ps n l2).map psE)
  unfold setS
  rw [List.map_map, List.map_map]
  congr 1
  refine List.map_congr_left fun x _ => ?_
  show (if kS x.1 = kS n then (kS x.1, inT l2) else (kS x.1, inT x.2)) = psE (if x.1 = n then (x.1, l2) else x)
  by_cases h : x.1 = n
  · rw [if_pos (by rw [h]), if_pos h]; rfl
  · rw [if_neg (fun z => h (kS_inj2 z)), if_neg h]; rfl
end
end K15
namespace K15
open PySem PySem.Spec PyProof.Rows L2 DL
theorem w_if2 {c : CF} {v : Bool} {env e : DL.Env} {X Y B : SF} {Q : Fl → DL.Env → Prop} (hc : c env = some (v, e)) (ht : v = true → Wp (sSeq X B e) Q) (hf : v = false → Wp (sSeq Y B e) Q) : Wp (sSeq (sIf c X Y) B env) Q :=
  w_if (n1 := some ()) (n2 := some ()) (r := ()) hc (by split <;> rfl) (fun h _ => ht h) (fun h _ => hf h)
def evT (n : Nm) (d k : Int) : D := .tup [eS (cod "late"), eS n, .int d, .int k]
def evS (w n : Nm) (d : Int) : D := .tup [eS w, eS n, .int d]
def lateS (ps : PSn) (n : Nm) (l : PLn) (d k : Int) : PSn := if 0 < (lkN l d).getD 0 then setS ps n (putN (poN l d) (d + k) ((lkN (poN l d) (d + k)).getD 0 + (lkN l d).getD 0)) else setS ps n (poN l d)
def sumL (l : PLn) : Int := (l.map (·.2)).sum
def earlyS (ps : PSn) (n : Nm) (l : PLn) (d : Int) : PSn := if 0 < sumL l then setS ps n [(d, sumL l)] else setS ps n []
def wholeR (w : Nm) (l : PLn) : Int := if w = cod "quit" then sumL l else 0
def wholeS (ps : PSn) (w n : Nm) (l : PLn) (d : Int) : PSn := if w = cod "quit" then setS ps n [] else earlyS ps n l d
variable {ps : PSn} {n : Nm} {l : PLn}
theorem late_ok (hn : (ps.map (·.1)).Nodup) (hl : lkN ps n = some l) (hll : l.length ≤ 1000) (d k : Int) : phi_event_done (psT ps) [evT n d k] = some (.p (.int 0), psT (lateS ps n l d k)) := by
  have hn1 : ((setS ps n (poN l d)).map (·.1)).Nodup := by rw [setS_keys]; exact hn
  have hl1 := lk_setS (l := poN l d) hl
  have hp : (poN l d).length ≤ 1000000 := by
    have := List.length_filter_le (fun p : Int × Int => decide (p.1 ≠ d)) l
    unfold poN; omega
  refine runM_wp rfl ?_
  show Wp (F_event_done [some (psT ps), some (.p (evT n d k)), none, none, none]) _
  unfold F_event_done
  refine w_seq (e1 := [some (psT ps), some (.p (evT n d k)), some (.p (eS n)), none, none]) (w_set2 (e_w (e_ix (e_b rfl) e_c (x_d rfl))) rfl rfl) ?_
  refine w_seq (e1 := [some (psT ps), some (.p (evT n d k)), some (.p (eS n)), some (.p (.int d)), none]) (w_set2 (e_w (e_ix (e_b rfl) e_c (x_d rfl))) rfl rfl) ?_
  refine w_if2 (c_t (e_cmp (e_ix (e_b rfl) e_c (x_d (x := eS (cod "late")) rfl)) (e_s "late") (u_p _) (u_p _) eqQ_g)) (fun _ => ?_) (fun h => absurd h (by decide))
  refine w_assoc ?_
  refine w_seq (e1 := [some (psT (setS ps n (poN l d))), some (.p (evT n d k)), some (.p (eS n)), some (.p (.int d)), some (.p (.int ((lkN l d).getD 0)))]) (w_set2 (e_pop hn rfl (e_v rfl) hl (e_v rfl)) rfl rfl) ?_
  refine w_assoc ?_
  refine w_if2 (c_t (e_cmp (r := decide (0 < (lkN l d).getD 0)) (e_b rfl) e_c (u_p _) (u_p _) rfl)) (fun h => ?_) (fun h => ?_)
  · refine w_seq (e1 := [some (psT (setS (setS ps n (poN l d)) n (putN (poN l d) (d + k) ((lkN (poN l d) (d + k)).getD 0 + (lkN l d).getD 0)))), some (.p (evT n d k)), some (.p (eS n)), some (.p (.int d)), some (.p (.int ((lkN l d).getD 0)))]) (w_putIn hn1 rfl (e_v rfl) hl1 hp (e_op (e_v rfl) (e_w (e_ix (e_b rfl) e_c (x_d rfl))) rfl) (e_op (e_dget (dd := D.int) kI_inj (e_dk (e_b rfl) (e_v rfl) hl1) (dic_o _) (e_op (e_v rfl) (e_w (e_ix (e_b rfl) e_c (x_d rfl))) rfl) (keyI _) e_c) (e_v rfl) rfl)) ?_
    rw [setS_two]
    unfold lateS
    rw [if_pos (of_decide_eq_true h)]
    exact w_sret e_c ⟨Or.inl rfl, rfl⟩
  · refine w_snx ?_
    unfold lateS
    rw [if_neg (of_decide_eq_false h)]
    exact w_sret e_c ⟨Or.inl rfl, rfl⟩
theorem whole_ok (hn : (ps.map (·.1)).Nodup) (hpl : ps.length ≤ 1000000) (hl : lkN ps n = some l) (d : Int) {w : Nm} (hw : w = cod "early" ∨ w = cod "quit") : phi_event_done (psT ps) [evS w n d] = some (.p (.int (wholeR w l)), psT (wholeS ps w n l d)) := by
  have hn1 : ((setS ps n []).map (·.1)).Nodup := by rw [setS_keys]; exact hn
  have hl1 := lk_setS (l := []) hl
  have hwl : ¬ w = cod "late" := by rcases hw with rfl | rfl <;> decide
  refine runM_wp rfl ?_
  show Wp (F_event_done [some (psT ps), some (.p (evS w n d)), none, none, none]) _
  unfold F_event_done
  refine w_seq (e1 := [some (psT ps), some (.p (evS w n d)), some (.p (eS n)), none, none]) (w_set2 (e_w (e_ix (e_b rfl) e_c (x_d rfl))) rfl rfl) ?_
  refine w_seq (e1 := [some (psT ps), some (.p (evS w n d)), some (.p (eS n)), some (.p (.int d)), none]) (w_set2 (e_w (e_ix (e_b rfl) e_c (x_d rfl))) rfl rfl) ?_
  refine w_if2 (c_t (e_cmp (e_ix (e_b rfl) e_c (x_d (x := eS w) rfl)) (e_s "late") (u_p _) (u_p _) eqQ_g)) (fun h => absurd (of_decide_eq_true h) hwl) (fun _ => ?_)
  refine w_snx ?_
  refine w_seq (e1 := [some (psT ps), some (.p (evS w n d)), some (.p (eS n)), some (.p (.int d)), some (.p (.int (sumL l)))]) (w_set2 (e_b1 (e_vals (e_dk (e_b rfl) (e_v rfl) hl)) (g_sumO _)) rfl rfl) ?_
  refine w_seq (e1 := [some (psT (setS ps n [])), some (.p (evS w n d)), some (.p (eS n)), some (.p (.int d)), some (.p (.int (sumL l)))]) (w_putOut hn hpl rfl (e_v rfl) hl rfl) ?_
  refine w_if2 (c_t (e_cmp (e_ix (e_b rfl) e_c (x_d (x := eS w) rfl)) (e_s "quit") (u_p _) (u_p _) eqQ_g)) (fun h => ?_) (fun h => ?_)
  · unfold wholeR wholeS
    rw [if_pos (of_decide_eq_true h), if_pos (of_decide_eq_true h)]
    exact w_sret (e_m rfl) ⟨Or.inl rfl, rfl⟩
  · unfold wholeR wholeS
    rw [if_neg (of_decide_eq_false h), if_neg (of_decide_eq_false h)]
    refine w_snx ?_
    refine w_if2 (c_t (e_cmp (r := decide (0 < sumL l)) (e_b rfl) e_c (u_p _) (u_p _) rfl)) (fun h2 => ?_) (fun h2 => ?_)
    · refine w_seq (e1 := [some (psT (setS (setS ps n []) n (putN [] d (sumL l)))), some (.p (evS w n d)), some (.p (eS n)), some (.p (.int d)), some (.p (.int (sumL l)))]) (w_putIn hn1 rfl (e_v rfl) hl1 (by simp) (e_v rfl) (e_v rfl)) ?_
      rw [setS_two]
      unfold earlyS
      rw [if_pos (of_decide_eq_true h2)]
      exact w_ret e_c ⟨Or.inl rfl, rfl⟩
    · refine w_snx ?_
      unfold earlyS
      rw [if_neg (of_decide_eq_false h2)]
      exact w_ret e_c ⟨Or.inl rfl, rfl⟩
end K15
namespace K15
open PySem PySem.Spec PyProof.Rows L2 DL
abbrev Ev : Type := Nm × Nm × Int × Int
abbrev LS : Type := List (Nm × Int)
abbrev eP : Nm × Int → D := eT2 eS D.int
def evD (e : Ev) : D := if e.1 = cod "late" then evT e.2.1 e.2.2.1 e.2.2.2 else evS e.1 e.2.1 e.2.2.1
def WOk (names : List Nm) (e : Ev) : Prop := (e.1 = cod "late" ∨ e.1 = cod "early" ∨ e.1 = cod "quit") ∧ e.2.1 ∈ names
def getL (ps : PSn) (n : Nm) : PLn := (lkN ps n).getD []
def evN (ps : PSn) (e : Ev) : PSn := if e.1 = cod "late" then lateS ps e.2.1 (getL ps e.2.1) e.2.2.1 e.2.2.2 else wholeS ps e.1 e.2.1 (getL ps e.2.1) e.2.2.1
def evR (ps : PSn) (e : Ev) : Int := if e.1 = cod "late" then 0 else wholeR e.1 (getL ps e.2.1)
structure PO (names : List Nm) (ps : PSn) : Prop where
  keys : ps.map (·.1) = names
  nd : names.Nodup
  len : names.length ≤ 1000
  il : ∀ x ∈ ps, x.2.length ≤ 1000
variable {names : List Nm} {ps : PSn} {n : Nm}
theorem PO.nn (P : PO names ps) : (ps.map (·.1)).Nodup := by rw [P.keys]; exact P.nd
theorem PO.pl (P : PO names ps) : ps.length ≤ 1000 := by
  have := congrArg List.length P.keys
  rw [List.length_map] at this
  have := P.len
  omega
theorem lk_some : ∀ {ps : PSn}, n ∈ ps.map (·.1) → ∃ l, lkN ps n = some l
  | [], h => by cases h
  | x :: ps, h => by
    rw [lk_cons]
    by_cases c : x.1 = n
    · exact ⟨x.2, if_pos c⟩
    · rw [if_neg c]
      rw [List.map_cons] at h
      rcases List.mem_cons.mp h with e | h
      · exact absurd e.symm c
      · exact lk_some h
theorem PO.lk (P : PO names ps) (hn : n ∈ names) : lkN ps n = some (getL ps n) ∧ (getL ps n).length ≤ 1000 := by
  obtain ⟨l, h⟩ := lk_some (ps := ps) (n := n) (by rw [P.keys]; exact hn)
  have e : getL ps n = l := by unfold getL; rw [h]; rfl
  rw [e]
  exact ⟨h, P.il _ (lk_mem' h)⟩
theorem PO.set (P : PO names ps) {l : PLn} (hl : l.length ≤ 1000) : PO names (setS ps n l) := by
  refine ⟨by rw [setS_keys]; exact P.keys, P.nd, P.len, fun x hx => ?_⟩
  obtain ⟨y, hy, rfl⟩ := List.mem_map.mp hx
  split
  · exact hl
  · exact P.il y hy
theorem poN_le (l : PLn) (d : Int) : (poN l d).length ≤ l.length := List.length_filter_le _ _
theorem poN_lt {d c : Int} : ∀ {l : PLn}, lkN l d = some c → (poN l d).length + 1 ≤ l.length
  | [], h => by cases h
  | x :: l, h => by
    rw [lkI_cons] at h
    unfold poN
    by_cases q : x.1 = d
    · rw [List.filter_cons_of_neg (by simpa using q), List.length_cons]
      have := poN_le l d
      unfold poN at this
      omega
    · rw [if_neg q] at h
      rw [List.filter_cons_of_pos (by simpa using q), List.length_cons, List.length_cons]
      have := poN_lt h
      unfold poN at this
      omega
theorem putN_le {κ α : Type} [DecidableEq κ] (l : List (κ × α)) (k : κ) (x : α) : (putN l k x).length ≤ l.length + 1 := by
  unfold putN
  split
  · rw [List.length_map]; omega
  · rw [List.length_append, List.length_singleton]; exact Nat.le_refl _
theorem event_ok (P : PO names ps) {e : Ev} (hw : WOk names e) : phi_event_done (psT ps) [evD e] = some (.p (.int (evR ps e)), psT (evN ps e)) ∧ PO names (evN ps e) := by
  obtain ⟨hl, hll⟩ := P.lk hw.2
  unfold evD evR evN
  by_cases c : e.1 = cod "late"
  · rw [if_pos c, if_pos c, if_pos c]
    refine ⟨late_ok P.nn hl hll _ _, ?_⟩
    unfold lateS
    split
    · rename_i h
      refine P.set ?_
      have h1 := putN_le (poN (getL ps e.2.1) e.2.2.1) (e.2.2.1 + e.2.2.2) ((lkN (poN (getL ps e.2.1) e.2.2.1) (e.2.2.1 + e.2.2.2)).getD 0 + (lkN (getL ps e.2.1) e.2.2.1).getD 0)
      cases q : lkN (getL ps e.2.1) e.2.2.1 with
      | none => rw [q] at h; exact absurd h (by decide)
      | some v =>
        have h2 := poN_lt q
        rw [q] at h1
        omega
    · exact P.set (Nat.le_trans (poN_le _ _) hll)
  · rw [if_neg c, if_neg c, if_neg c]
    have hw2 : e.1 = cod "early" ∨ e.1 = cod "quit" := hw.1.elim (fun q => absurd q c) id
    refine ⟨whole_ok P.nn (by have := P.pl; omega) hl _ hw2, ?_⟩
    unfold wholeS
    split
    · exact P.set (by simp)
    · unfold earlyS
      split
      · exact P.set (by simp)
      · exact P.set (by simp)
def evF (d : Int) (e : Ev) (s : PSn × LS) : PSn × LS := if e.2.2.1 = d then (evN s.1 e, putN s.2 e.2.1 ((lkN s.2 e.2.1).getD 0 + evR s.1 e)) else s
def LO (names : List Nm) (lost : LS) : Prop := (lost.map (·.1)).Nodup ∧ ∀ k ∈ lost.map (·.1), k ∈ names
theorem putN_keys {κ α : Type} [DecidableEq κ] (l : List (κ × α)) (k : κ) (x : α) : (putN l k x).map (·.1) = if k ∈ l.map (·.1) then l.map (·.1) else l.map (·.1) ++ [k] := by
  unfold putN
  have e : (l.any fun p => decide (p.1 = k)) = true ↔ k ∈ l.map (·.1) := by
    rw [List.any_eq_true, List.mem_map]
    constructor
    · rintro ⟨p, hp, h⟩; exact ⟨p, hp, of_decide_eq_true h⟩
    · rintro ⟨p, hp, h⟩; exact ⟨p, hp, decide_eq_true h⟩
  by_cases h : k ∈ l.map (·.1)
  · rw [if_pos (e.mpr h), if_pos h, List.map_map]
    refine List.map_congr_left fun y _ => ?_
    show (if y.1 = k then (y.1, x) else y).1 = y.1
    split <;> rfl
  · rw [if_neg (fun z => h (e.mp z)), if_neg h, List.map_append]; rfl
theorem LO.put {lost : LS} (h : LO names lost) (hn : n ∈ names) (v : Int) : LO names (putN lost n v) := by
  unfold LO
  rw [putN_keys]
  split
  · exact h
  · rename_i q
    refine ⟨List.nodup_append.mpr ⟨h.1, by simp, fun a ha b hb => by rw [List.mem_singleton.mp hb]; exact fun z => q (by rw [← z]; exact ha)⟩, fun k hk => ?_⟩
    rcases List.mem_append.mp hk with hk | hk
    · exact h.2 k hk
    · rw [List.mem_singleton.mp hk]; exact hn
theorem LO.len {lost : LS} (h : LO names lost) (hl : names.length ≤ 1000) : lost.length ≤ 1000 := by
  have := DK.sub_len h.1 h.2
  rw [List.length_map] at this
  omega
theorem put_ls (n : Nm) (c : Int) (l : LS) : putT (l.map fun x => (kS x.1, T.p (.int x.2))) (kS n) (.p (.int c)) = (putN l n c).map fun x => (kS x.1, T.p (.int x.2)) := by
  have ha : ((l.map fun x => (kS x.1, T.p (.int x.2))).any fun kv => decide (kv.1 = kS n)) = l.any fun p => decide (p.1 = n) := by
    rw [List.any_map]
    congr 1
    funext x
    show decide (kS x.1 = kS n) = decide (x.1 = n)
    by_cases h : x.1 = n
    · rw [decide_eq_true h, decide_eq_true (by rw [h])]
    · rw [decide_eq_false h, decide_eq_false (fun z => h (kS_inj2 z))]
  unfold putT putN
  rw [ha]
  split
  · rw [List.map_map, List.map_map]
    refine List.map_congr_left fun x _ => ?_
    show (if kS x.1 = kS n then (kS x.1, T.p (D.int c)) else (kS x.1, T.p (D.int x.2))) = (fun x : Nm × Int => (kS x.1, T.p (D.int x.2))) (if x.1 = n then (x.1, c) else x)
    by_cases h : x.1 = n
    · rw [if_pos (by rw [h]), if_pos h]
    · rw [if_neg (fun z => h (kS_inj2 z)), if_neg h]
  · rw [List.map_append]; rfl
theorem oKS_eq (l : LS) : oK kS D.int l = .dic (l.map fun x => (kS x.1, T.p (.int x.2))) := by
  show T.dic (pairsT (l.map fun p => (kS p.1, D.int p.2))) = _
  unfold pairsT
  rw [List.map_map]; rfl
theorem w_putLs {env env2 : DL.Env} {i : Nat} {fk f : EF} {l : LS} {c : Int} (hl : l.length ≤ 1000000) (hf : f env = some (.p (.int c), env2)) (h0 : env2[i]? = some (some (oK kS D.int l))) (hk : fk env2 = some (.p (eS n), env2)) :
    sPutP i (pNm i) fk f env = some (.nx, env2.set i (some (oK kS D.int (putN l n c)))) := by
  unfold sPutP
  rw [hf]
  show (pNm i env2).bind _ = _
  rw [p_nm h0]
  show (fk env2).bind _ = _
  rw [hk]
  show (atP env2 i []).bind _ = _
  rw [at_nm h0, oKS_eq]
  show (if (l.map fun x => (kS x.1, T.p (.int x.2))).length < 16000000 ∧ true = true then some (Fl.nx, putP env2 i [] (.dic (putT (l.map fun x => (kS x.1, T.p (.int x.2))) (kS n) (.p (.int c))))) else none) = _
  rw [if_pos ⟨by rw [List.length_map]; omega, rfl⟩, put_nm h0, put_ls, ← oKS_eq]
def nmF (d : Int) (lost : LS) (n : Nm) (s : PSn × LS × LS) : PSn × LS × LS := (setS s.1 n (poN (getL s.1 n) d), if 0 < (lkN (getL s.1 n) d).getD 0 then s.2.1 ++ [(n, (lkN (getL s.1 n) d).getD 0)] else s.2.1, if 0 < (lkN lost n).getD 0 then s.2.2 ++ [(n, (lkN lost n).getD 0)] else s.2.2)
def fold1 {α σ : Type} (f : α → σ → σ) : List α → σ → σ
  | [], s => s
  | x :: xs, s => fold1 f xs (f x s)
theorem fold1_eq {α σ : Type} (f : α → σ → σ) : ∀ (xs : List α) (s : σ), fold (fun x s => some (f x s)) xs s = some (fold1 f xs s)
  | [], _ => rfl
  | x :: xs, s => fold1_eq f xs (f x s)
def oneD (ps : PSn) (evs : List Ev) (d : Int) : PSn × LS × LS := fold1 (nmF d (fold1 (evF d) evs (ps, [])).2) (ps.map (·.1)) ((fold1 (evF d) evs (ps, [])).1, [], [])
theorem evD_day (e : Ev) : ixD (evD e) 2 = some (.int e.2.2.1) := by unfold evD; split <;> rfl
theorem evD_nm (e : Ev) : ixD (evD e) 1 = some (eS e.2.1) := by unfold evD; split <;> rfl
theorem keys_ps : keysT (psT ps) = some ((ps.map (·.1)).map kS) := by
  show some ((ps.map psE).map (·.1)) = _
  rw [List.map_map, List.map_map]; rfl
theorem e_keys {f : EF} {env e : DL.Env} (h : f env = some (psT ps, e)) : eKeysL f env = some (oL eS (ps.map (·.1)), e) := by
  unfold eKeysL
  rw [h, bindS]
  dsimp only
  rw [show keysT (unb (psT ps)) = _ from keys_ps]
  have e1 : ((ps.map (·.1)).map kS).map kD = (ps.map (·.1)).map eS := by rw [List.map_map]; rfl
  show some (T.lst ((((ps.map (·.1)).map kS).map kD).map T.p), e) = _
  rw [e1]
theorem bnd_e {α β : Type} {a : Option α} {v : α} {f : α → Option β} {r : Option β} (h : a = some v) (k : f v = r) : a.bind f = r := by rw [h]; exact k
theorem one_day_ok (P : PO names ps) {evs : List Ev} (hw : ∀ e ∈ evs, WOk names e) (d : Int) : phi_one_day (psT ps) [eLs evD evs, .int d] = some (.tup [oL eP (oneD ps evs d).2.1, oL eP (oneD ps evs d).2.2], psT (oneD ps evs d).1) ∧ PO names (oneD ps evs d).1 := by
  have inv1 : ∀ (l : List Ev), (∀ e ∈ l, e ∈ evs) → ∀ s : PSn × LS, PO names s.1 ∧ LO names s.2 → PO names (fold1 (evF d) l s).1 ∧ LO names (fold1 (evF d) l s).2 := by
    intro l
    induction l with
    | nil => intro _ s h; exact h
    | cons e l ih =>
      intro hl s h
      refine ih (fun x hx => hl x (by simp [hx])) _ ?_
      unfold evF
      split
      · exact ⟨(event_ok h.1 (hw e (hl e (by simp)))).2, h.2.put (hw e (hl e (by simp))).2 _⟩
      · exact h
  have h1 := inv1 evs (fun e h => h) (ps, []) ⟨P, by simp [LO]⟩
  have hk1 : (fold1 (evF d) evs (ps, [])).1.map (·.1) = ps.map (·.1) := h1.1.keys.trans P.keys.symm
  unfold oneD
  generalize hs1 : fold1 (evF d) evs (ps, []) = s1 at h1 hk1
  have inv2 : ∀ (l : List Nm), (∀ n ∈ l, n ∈ names) → ∀ s : PSn × LS × LS, PO names s.1 ∧ s.2.1.length + l.length ≤ 100000 ∧ s.2.2.length + l.length ≤ 100000 → PO names (fold1 (nmF d s1.2) l s).1 := by
    intro l
    induction l with
    | nil => intro _ s h; exact h.1
    | cons n l ih =>
      intro hl s h
      rw [List.length_cons] at h
      refine ih (fun x hx => hl x (by simp [hx])) _ ⟨h.1.set (Nat.le_trans (poN_le _ _) (h.1.lk (hl n (by simp))).2), ?_, ?_⟩
      · show (if _ then _ else _ : LS).length + _ ≤ _
        split
        · rw [List.length_append, List.length_singleton]; omega
        · omega
      · show (if _ then _ else _ : LS).length + _ ≤ _
        split
        · rw [List.length_append, List.length_singleton]; omega
        · omega
  have hpl := P.pl
  have P2 := inv2 (ps.map (·.1)) (fun n hn => by rw [P.keys] at hn; exact hn) (s1.1, [], []) ⟨h1.1, by simp; omega, by simp; omega⟩
  refine ⟨?_, P2⟩
  refine runM_wp rfl ?_
  show Wp (F_one_day [some (psT ps), some (.p (eLs evD evs)), some (.p (.int d)), none, none, none, none, none, none]) _
  unfold F_one_day
  refine w_seq (e1 := [some (psT ps), some (.p (eLs evD evs)), some (.p (.int d)), some (oK kS D.int []), none, none, none, none, none]) (w_set2 e_dn rfl rfl) ?_
  refine w_for (P := fun e => ∃ u4, e = [some (psT s1.1), some (.p (eLs evD evs)), some (.p (.int d)), some (oK kS D.int s1.2), u4, none, none, none, none]) (i_l (e_v rfl)) ?_ fun e he => ?_
  · have hf := fold1_eq (evF d) evs (ps, [])
    rw [hs1] at hf
    have go : ∀ (l : List Ev), (∀ e ∈ l, e ∈ evs) → ∀ (s : PSn × LS) (u : Option T), PO names s.1 ∧ LO names s.2 → ∃ e2, loopD (gNm 4) B_one_day_1 (l.map evD) [some (psT s.1), some (.p (eLs evD evs)), some (.p (.int d)), some (oK kS D.int s.2), u, none, none, none, none] = some (.nx, e2) ∧ ∃ u4, e2 = [some (psT (fold1 (evF d) l s).1), some (.p (eLs evD evs)), some (.p (.int d)), some (oK kS D.int (fold1 (evF d) l s).2), u4, none, none, none, none] := by
      intro l
      induction l with
      | nil => intro _ s u _; exact ⟨_, rfl, u, rfl⟩
      | cons e l ih =>
        intro hl s u hI
        have hwe := hw e (hl e (by simp))
        obtain ⟨he1, he2⟩ := event_ok hI.1 hwe
        have hb : Wp (B_one_day_1 [some (psT s.1), some (.p (eLs evD evs)), some (.p (.int d)), some (oK kS D.int s.2), some (.p (evD e)), none, none, none, none]) fun fl e2 => fl = .nx ∧ e2 = [some (psT (evF d e s).1), some (.p (eLs evD evs)), some (.p (.int d)), some (oK kS D.int (evF d e s).2), some (.p (evD e)), none, none, none, none] := by
          unfold B_one_day_1
          refine w_one ?_
          refine w_if2 (c_t (e_cmp (r := decide (e.2.2.1 = d)) (e_ix (e_b rfl) e_c (x_d (evD_day e))) (e_b rfl) (u_p _) (u_p _) eqQ_i)) (fun h => ?_) (fun h => ?_)
          · have hev : evF d e s = (evN s.1 e, putN s.2 e.2.1 ((lkN s.2 e.2.1).getD 0 + evR s.1 e)) := if_pos (of_decide_eq_true h)
            rw [hev]
            refine w_seq (e1 := [some (psT (evN s.1 e)), some (.p (eLs evD evs)), some (.p (.int d)), some (oK kS D.int (putN s.2 e.2.1 ((lkN s.2 e.2.1).getD 0 + evR s.1 e))), some (.p (evD e)), none, none, none, none]) (w_putLs (env2 := [some (psT (evN s.1 e)), some (.p (eLs evD evs)), some (.p (.int d)), some (oK kS D.int s.2), some (.p (evD e)), none, none, none, none]) (by have := hI.2.len P.len; omega) (e_op (e_dget (dd := D.int) kS_inj (e_b rfl) (dic_o _) (e_w (e_ix (e_b rfl) e_c (x_d (evD_nm e)))) (keyS _) e_c) (e_callM (p_nm rfl) (a_c (e_v rfl) a_n) rfl rfl he1 rfl) rfl) rfl (e_w (e_ix (e_b rfl) e_c (x_d (evD_nm e))))) ?_
            exact w_nx ⟨rfl, rfl⟩
          · have hev : evF d e s = s := if_neg (of_decide_eq_false h)
            rw [hev]
            refine w_snx ?_
            exact w_nx ⟨rfl, rfl⟩
        obtain ⟨fl, e2, q1, q2, q3⟩ := hb
        subst q2; subst q3
        have hI2 : PO names (evF d e s).1 ∧ LO names (evF d e s).2 := by
          unfold evF
          split
          · exact ⟨he2, hI.2.put hwe.2 _⟩
          · exact hI
        obtain ⟨e3, r1, r2⟩ := ih (fun x hx => hl x (by simp [hx])) (evF d e s) (some (.p (evD e))) hI2
        refine ⟨e3, ?_, r2⟩
        rw [List.map_cons, loop_c]
        show (some _ : Option DL.Env).bind _ = _
        rw [bindS, kLp1_q]
        exact bnd_e q1 r1
    obtain ⟨e2, r1, r2⟩ := go evs (fun e h => h) (ps, []) none ⟨P, by simp [LO]⟩
    rw [hs1] at r2
    exact ⟨e2, r1, r2⟩
  · obtain ⟨u4, rfl⟩ := he
    refine w_seq (e1 := [some (psT s1.1), some (.p (eLs evD evs)), some (.p (.int d)), some (oK kS D.int s1.2), u4, some (oL eP []), none, none, none]) (w_set2 (e_l a_n rfl rfl) rfl rfl) ?_
    refine w_seq (e1 := [some (psT s1.1), some (.p (eLs evD evs)), some (.p (.int d)), some (oK kS D.int s1.2), u4, some (oL eP []), some (oL eP []), none, none]) (w_set2 (e_l a_n rfl rfl) rfl rfl) ?_
    have hkl : eKeysL (eB 0) [some (psT s1.1), some (.p (eLs evD evs)), some (.p (.int d)), some (oK kS D.int s1.2), u4, some (oL eP []), some (oL eP []), none, none] = some (oL eS (ps.map (·.1)), [some (psT s1.1), some (.p (eLs evD evs)), some (.p (.int d)), some (oK kS D.int s1.2), u4, some (oL eP []), some (oL eP []), none, none]) := by
      rw [← hk1]
      exact e_keys (e_b rfl)
    refine w_for (P := fun e => ∃ u7 u8, e = [some (psT (fold1 (nmF d s1.2) (ps.map (·.1)) (s1.1, [], [])).1), some (.p (eLs evD evs)), some (.p (.int d)), some (oK kS D.int s1.2), u4, some (oL eP (fold1 (nmF d s1.2) (ps.map (·.1)) (s1.1, [], [])).2.1), some (oL eP (fold1 (nmF d s1.2) (ps.map (·.1)) (s1.1, [], [])).2.2), u7, u8]) (i_l (e_fz (d := eLs eS (ps.map (·.1))) hkl (oL_toD (e := eS) _))) ?_ fun e he => ?_
    · have go : ∀ (l : List Nm), (∀ n ∈ l, n ∈ names) → ∀ (s : PSn × LS × LS) (u v : Option T), PO names s.1 ∧ s.2.1.length + l.length ≤ 100000 ∧ s.2.2.length + l.length ≤ 100000 → ∃ e2, loopD (gNm 7) B_one_day_2 (l.map eS) [some (psT s.1), some (.p (eLs evD evs)), some (.p (.int d)), some (oK kS D.int s1.2), u4, some (oL eP s.2.1), some (oL eP s.2.2), u, v] = some (.nx, e2) ∧ ∃ u7 u8, e2 = [some (psT (fold1 (nmF d s1.2) l s).1), some (.p (eLs evD evs)), some (.p (.int d)), some (oK kS D.int s1.2), u4, some (oL eP (fold1 (nmF d s1.2) l s).2.1), some (oL eP (fold1 (nmF d s1.2) l s).2.2), u7, u8] := by
        intro l
        induction l with
        | nil => intro _ s u v _; exact ⟨_, rfl, u, v, rfl⟩
        | cons n l ih =>
          intro hl s u v hI
          rw [List.length_cons] at hI
          obtain ⟨hn1, hn2⟩ := hI.1.lk (hl n (by simp))
          have hb : Wp (B_one_day_2 [some (psT s.1), some (.p (eLs evD evs)), some (.p (.int d)), some (oK kS D.int s1.2), u4, some (oL eP s.2.1), some (oL eP s.2.2), some (.p (eS n)), v]) fun fl e2 => fl = .nx ∧ e2 = [some (psT (nmF d s1.2 n s).1), some (.p (eLs evD evs)), some (.p (.int d)), some (oK kS D.int s1.2), u4, some (oL eP (nmF d s1.2 n s).2.1), some (oL eP (nmF d s1.2 n s).2.2), some (.p (eS n)), some (.p (.int ((lkN (getL s.1 n) d).getD 0)))] := by
            unfold B_one_day_2
            refine w_seq (e1 := [some (psT (setS s.1 n (poN (getL s.1 n) d))), some (.p (eLs evD evs)), some (.p (.int d)), some (oK kS D.int s1.2), u4, some (oL eP s.2.1), some (oL eP s.2.2), some (.p (eS n)), some (.p (.int ((lkN (getL s.1 n) d).getD 0)))]) (w_set2 (e_pop hI.1.nn rfl (e_v rfl) hn1 (e_v rfl)) rfl rfl) ?_
            have rest : ∀ (pd : LS), Wp ((sIf (cT (eCmp cGt (eDget (eB 3) (eV 7) (eC (.int 0))) (eC (.int 0)))) (sApp 6 (eFz (eT (aC (eV 7) (aC (eDix (eB 3) (eV 7)) aN))))) sNx) [some (psT (setS s.1 n (poN (getL s.1 n) d))), some (.p (eLs evD evs)), some (.p (.int d)), some (oK kS D.int s1.2), u4, some (oL eP pd), some (oL eP s.2.2), some (.p (eS n)), some (.p (.int ((lkN (getL s.1 n) d).getD 0)))]) fun fl e2 => fl = .nx ∧ e2 = [some (psT (nmF d s1.2 n s).1), some (.p (eLs evD evs)), some (.p (.int d)), some (oK kS D.int s1.2), u4, some (oL eP pd), some (oL eP (nmF d s1.2 n s).2.2), some (.p (eS n)), some (.p (.int ((lkN (getL s.1 n) d).getD 0)))] := fun pd => by
              refine w_one ?_
              refine w_if2 (c_t (e_cmp (r := decide (0 < (lkN s1.2 n).getD 0)) (e_dget (dd := D.int) kS_inj (e_b rfl) (dic_o _) (e_v rfl) (keyS _) e_c) e_c (u_p _) (u_p _) rfl)) (fun h => ?_) (fun h => ?_)
              · have hp : 0 < (lkN s1.2 n).getD 0 := of_decide_eq_true h
                have e2 : (nmF d s1.2 n s).2.2 = s.2.2 ++ [(n, (lkN s1.2 n).getD 0)] := if_pos hp
                have e3 : lkN s1.2 n = some ((lkN s1.2 n).getD 0) := by
                  cases q : lkN s1.2 n with
                  | none => rw [q] at hp; exact absurd hp (by decide)
                  | some v => rfl
                rw [e2]
                refine w_seq (e1 := [some (psT (setS s.1 n (poN (getL s.1 n) d))), some (.p (eLs evD evs)), some (.p (.int d)), some (oK kS D.int s1.2), u4, some (oL eP pd), some (oL eP (s.2.2 ++ [(n, (lkN s1.2 n).getD 0)])), some (.p (eS n)), some (.p (.int ((lkN (getL s.1 n) d).getD 0)))]) (w_appL2 (dd := eP) rfl (e_fz (d := eP (n, (lkN s1.2 n).getD 0)) (e_t (a_c (e_v rfl) (a_c (e_dix (dd := D.int) kS_inj (e_b rfl) (dic_o _) (e_v rfl) (keyS _) e3) a_n)) rfl (show _ = ((.p (eP (n, (lkN s1.2 n).getD 0))) : T) from rfl)) (u_p _)) rfl (push_eq (by omega)) rfl) ?_
                exact w_nx ⟨rfl, rfl⟩
              · have e2 : (nmF d s1.2 n s).2.2 = s.2.2 := if_neg (of_decide_eq_false h)
                rw [e2]
                refine w_snx ?_
                exact w_nx ⟨rfl, rfl⟩
            refine w_if2 (c_t (e_cmp (r := decide (0 < (lkN (getL s.1 n) d).getD 0)) (e_b rfl) e_c (u_p _) (u_p _) rfl)) (fun h => ?_) (fun h => ?_)
            · have e2 : (nmF d s1.2 n s).2.1 = s.2.1 ++ [(n, (lkN (getL s.1 n) d).getD 0)] := if_pos (of_decide_eq_true h)
              rw [e2]
              refine w_seq (e1 := [some (psT (setS s.1 n (poN (getL s.1 n) d))), some (.p (eLs evD evs)), some (.p (.int d)), some (oK kS D.int s1.2), u4, some (oL eP (s.2.1 ++ [(n, (lkN (getL s.1 n) d).getD 0)])), some (oL eP s.2.2), some (.p (eS n)), some (.p (.int ((lkN (getL s.1 n) d).getD 0)))]) (w_appL2 (dd := eP) rfl (e_fz (d := eP (n, (lkN (getL s.1 n) d).getD 0)) (e_t (a_c (e_v rfl) (a_c (e_v rfl) a_n)) rfl (show _ = ((.p (eP (n, (lkN (getL s.1 n) d).getD 0))) : T) from rfl)) (u_p _)) rfl (push_eq (by omega)) rfl) ?_
              exact rest _
            · have e2 : (nmF d s1.2 n s).2.1 = s.2.1 := if_neg (of_decide_eq_false h)
              rw [e2]
              refine w_snx ?_
              exact rest _
          obtain ⟨fl, e2, q1, q2, q3⟩ := hb
          subst q2; subst q3
          have hI2 : PO names (nmF d s1.2 n s).1 ∧ (nmF d s1.2 n s).2.1.length + l.length ≤ 100000 ∧ (nmF d s1.2 n s).2.2.length + l.length ≤ 100000 := by
            refine ⟨hI.1.set (Nat.le_trans (poN_le _ _) hn2), ?_, ?_⟩
            · show (if _ then _ else _ : LS).length + _ ≤ _
              split
              · rw [List.length_append, List.length_singleton]; omega
              · omega
            · show (if _ then _ else _ : LS).length + _ ≤ _
              split
              · rw [List.length_append, List.length_singleton]; omega
              · omega
          obtain ⟨e3, r1, r2⟩ := ih (fun x hx => hl x (by simp [hx])) (nmF d s1.2 n s) (some (.p (eS n))) (some (.p (.int ((lkN (getL s.1 n) d).getD 0)))) hI2
          refine ⟨e3, ?_, r2⟩
          rw [List.map_cons, loop_c]
          show (some _ : Option DL.Env).bind _ = _
          rw [bindS, kLp1_q]
          exact bnd_e q1 r1
      exact go (ps.map (·.1)) (fun n hn => by rw [P.keys] at hn; exact hn) (s1.1, [], []) none none ⟨h1.1, by simp; omega, by simp; omega⟩
    · obtain ⟨u7, u8, rfl⟩ := he
      refine w_one ?_
      exact w_sret (e_t (a_c (e_m rfl) (a_c (e_m rfl) a_n)) rfl (show _ = ((.tup [oL eP (fold1 (nmF d s1.2) (ps.map (·.1)) (s1.1, [], [])).2.1, oL eP (fold1 (nmF d s1.2) (ps.map (·.1)) (s1.1, [], [])).2.2]) : T) from rfl)) ⟨Or.inl rfl, rfl⟩
end K15
namespace K15
open PySem PySem.Spec PyProof.Rows L2 DL
abbrev Db : Type := Nm × Nm × PLn
abbrev eDb : Db → D := eT3 eS eS (eLs (eT2 D.int D.int))
theorem pairs_ok : ∀ l : PLn, pairsD (l.map (eT2 D.int D.int)) = some (l.map fun p => (kI p.1, D.int p.2))
  | [] => rfl
  | p :: l => by
    have ih := pairs_ok l
    show (keyD (.int p.1)).bind (fun kk => (pairsD (l.map (eT2 D.int D.int))).map ((kk, D.int p.2) :: ·)) = _
    rw [ih]; rfl
theorem putD_new {kd : List (Key × D)} {k : Key} {d : D} (h : k ∉ kd.map (·.1)) : putD kd k d = kd ++ [(k, d)] := by
  unfold putD
  rw [if_neg]
  simp only [List.any_eq_true, decide_eq_true_eq, not_exists, not_and]
  intro x hx e
  exact h (e ▸ List.mem_map_of_mem hx)
theorem merge_new : ∀ (more kd : List (Key × D)), ((kd ++ more).map (·.1)).Nodup → mergeD kd more = kd ++ more
  | [], kd, _ => by simp [mergeD]
  | x :: more, kd, h => by
    show mergeD (putD kd x.1 x.2) more = _
    rw [putD_new, merge_new more]
    · simp
    · simpa using h
    · intro hm
      rw [List.map_append, List.map_cons] at h
      exact (List.nodup_append.mp h).2.2 _ hm _ (by simp) rfl
theorem merge_ok {l : PLn} (h : (l.map (·.1)).Nodup) : mergeD [] (l.map fun p => (kI p.1, D.int p.2)) = l.map fun p => (kI p.1, D.int p.2) := by
  rw [merge_new _ [] ?_]
  · rfl
  · rw [List.nil_append, List.map_map]
    have : ((fun x : Key × D => x.1) ∘ fun p : Int × Int => (kI p.1, D.int p.2)) = (fun i : Int => (Sum.inl i : Key)) ∘ (fun p : Int × Int => p.1) := rfl
    rw [this, ← List.map_map]
    exact List.Pairwise.map _ (fun a b n e => n (Sum.inl.inj e)) h
section
variable {env e : DL.Env} {ps : PSn} {n : Nm} {l l2 : PLn} {i : Nat} {fk fx f : EF}
theorem e_dictP (h : f env = some (.p (eLs (eT2 D.int D.int) l), e)) (hn : (l.map (·.1)).Nodup) : eDictP f env = some (inT l, e) := by
  unfold eDictP
  rw [h]
  show (if true = true then (pairsD (l.map (eT2 D.int D.int))).map (fun kvs => (T.dic (pairsT (mergeD [] kvs)), e)) else none) = _
  rw [if_pos rfl, pairs_ok]
  show some (T.dic (pairsT (mergeD [] (l.map fun p => (kI p.1, D.int p.2)))), e) = _
  rw [merge_ok hn]; rfl
theorem w_putNew (hn : (ps.map (·.1)).Nodup) (hpl : ps.length ≤ 1000000) (h0 : env[i]? = some (some (psT ps))) (hk : fk env = some (.p (eS n), env)) (hl : n ∉ ps.map (·.1)) (hf : f env = some (inT l2, env)) :
    sPutP i (pNm i) fk f env = some (.nx, env.set i (some (psT (ps ++ [(n, l2)])))) := by
  have hany : (ps.any fun p => decide (p.1 = n)) = false := by
    rw [List.any_eq_false]
    intro x hx h
    exact hl (List.mem_map.mpr ⟨x, hx, of_decide_eq_true h⟩)
  unfold sPutP
  rw [hf]
  show (pNm i env).bind _ = _
  rw [p_nm h0]
  show (fk env).bind _ = _
  rw [hk]
  show (atP env i []).bind _ = _
  rw [at_nm h0]
  show (if (ps.map psE).length < 16000000 ∧ (isP (inT l2) || decide (cntT (ps.map psE) (kS n) ≤ 1)) = true then some (Fl.nx, putP env i [] (.dic (putT (ps.map psE) (kS n) (inT l2)))) else none) = _
  rw [if_pos ⟨by rw [List.length_map]; omega, by rw [decide_eq_true (cnt_ps n hn), Bool.or_true]⟩, put_nm h0]
  congr 3
  congr 1
  unfold putT
  rw [any_ps, hany, if_neg (by decide)]
  show T.dic (ps.map psE ++ [(kS n, inT l2)]) = T.dic ((ps ++ [(n, l2)]).map psE)
  rw [List.map_append]; rfl
theorem toKs_ps : ∀ ps : PSn, T.toKs (ps.map psE) = ps.map fun x => (kS x.1, eKd kI D.int x.2)
  | [] => rfl
  | x :: ps => by
    show (kS x.1, (inT x.2).toD) :: T.toKs (ps.map psE) = _
    rw [toKs_ps ps, show (inT x.2).toD = eKd kI D.int x.2 from oK_toD x.2]; rfl
theorem toD_ps (ps : PSn) : (psT ps).toD = .dic (ps.map fun x => (kS x.1, eKd kI D.int x.2)) := by
  show D.dic (T.toKs (ps.map psE)) = _
  rw [toKs_ps]
abbrev psD (ps : PSn) : D := .dic (ps.map fun x => (kS x.1, eKd kI D.int x.2))
theorem e_vp (h : env[i]? = some (some (psT ps))) : eV i env = some (.p (psD ps), env.set i (some (.p (psD ps)))) := by
  unfold eV
  rw [h]
  show some (T.p (psT ps).toD, env.set i (some (.p (psT ps).toD))) = _
  rw [toD_ps]
theorem e_valsP (h : env[i]? = some (some (.p (psD ps)))) (hk : fk env = some (.p (eS n), env)) (hl : lkN ps n = some l) : eValsL (eDk (eB i) fk) env = some (oL D.int (l.map (·.2)), env) := by
  have e1 : eDk (eB i) fk env = some (.p (eKd kI D.int l), env) := DL.e_dk (ky := kS n) (e_b h) hk rfl (by
    show (valD (ps.map fun x => (kS x.1, eKd kI D.int x.2)) (kS n)).map T.p = _
    rw [val_lk kS_inj, hl]; rfl)
  unfold eValsL
  rw [e1]
  show some (T.lst (((l.map fun p => (kI p.1, D.int p.2)).map (·.2)).map T.p), env) = _
  rw [show (l.map fun p => (kI p.1, D.int p.2)).map (·.2) = (l.map (·.2)).map D.int from by rw [List.map_map, List.map_map]; rfl]
end
structure TOk (bs : List Db) (evs : List Ev) (many : Int) : Prop where
  nd : (bs.map (·.1)).Nodup
  len : bs.length ≤ 1000
  pl : ∀ b ∈ bs, (b.2.2.map (·.1)).Nodup ∧ b.2.2.length ≤ 1000
  ev : ∀ e ∈ evs, WOk (bs.map (·.1)) e
  k0 : ∀ e ∈ evs, e.1 ≠ cod "late" → e.2.2.2 = 0
  m : 0 ≤ many ∧ many ≤ 1000
def psOf (bs : List Db) : PSn := bs.map fun b => (b.1, b.2.2)
def daysS (evs : List Ev) : List Int → PSn → List (LS × LS) × PSn
  | [], ps => ([], ps)
  | d :: ds, ps => ((oneD ps evs d).2 :: (daysS evs ds (oneD ps evs d).1).1, (daysS evs ds (oneD ps evs d).1).2)
def leftS (ps : PSn) : LS := (ps.map fun x => (x.1, sumL x.2)).filter fun x => decide (0 < x.2)
def toldR (bs : List Db) (evs : List Ev) (many : Int) : List (LS × LS) × LS := ((daysS evs (rngN 1 many.toNat) (psOf bs)).1, leftS (daysS evs (rngN 1 many.toNat) (psOf bs)).2)
abbrev pairE (p : LS × LS) : T := .tup [oL eP p.1, oL eP p.2]
open Classical in
noncomputable def dayF (names : List Nm) (evs : List Ev) (d : Int) (ps : PSn) : Option ((LS × LS) × PSn) := if PO names ps then some ((oneD ps evs d).2, (oneD ps evs d).1) else none
theorem days_map {names : List Nm} {evs : List Ev} (hw : ∀ e ∈ evs, WOk names e) : ∀ (ds : List Int) (ps : PSn), PO names ps → mapSt (dayF names evs) ds ps = some (daysS evs ds ps) ∧ PO names (daysS evs ds ps).2
  | [], ps, P => ⟨rfl, P⟩
  | d :: ds, ps, P => by
    obtain ⟨h1, h2⟩ := days_map hw ds _ (one_day_ok P hw d).2
    refine ⟨?_, h2⟩
    show (dayF names evs d ps).bind _ = _
    rw [show dayF names evs d ps = some ((oneD ps evs d).2, (oneD ps evs d).1) from if_pos P]
    show (mapSt (dayF names evs) ds (oneD ps evs d).1).map _ = _
    rw [h1]; rfl
def leftF (x : Nm × PLn) (s : LS) : LS := if 0 < sumL x.2 then s ++ [(x.1, sumL x.2)] else s
theorem left_fold : ∀ (ps : PSn) (s : LS), fold1 leftF ps s = s ++ leftS ps
  | [], s => by simp [fold1, leftS]
  | x :: ps, s => by
    show fold1 leftF ps (leftF x s) = _
    rw [left_fold ps]
    unfold leftF leftS
    rw [List.map_cons]
    by_cases h : 0 < sumL x.2
    · rw [if_pos h, List.filter_cons_of_pos (by exact decide_eq_true h)]; simp
    · rw [if_neg h, List.filter_cons_of_neg (by simpa using h)]
theorem lk_pre {pre post : PSn} {x : Nm × PLn} (hn : ((pre ++ x :: post).map (·.1)).Nodup) : lkN (pre ++ x :: post) x.1 = some x.2 := by
  induction pre with
  | nil => show lkN (x :: post) x.1 = _; rw [lk_cons, if_pos rfl]
  | cons y pre ih =>
    rw [List.cons_append, List.map_cons] at hn
    obtain ⟨n1, n2⟩ := List.nodup_cons.mp hn
    show lkN (y :: (pre ++ x :: post)) x.1 = _
    rw [lk_cons, if_neg (fun z => n1 (by rw [z]; simp)), ih n2]
theorem told_days_ok {bs : List Db} {evs : List Ev} {many : Int} (h : TOk bs evs many) : phi_told_days [eLs eDb bs, eLs evD evs, .int many] = some (.tup [oE pairE (toldR bs evs many).1, oL eP (toldR bs evs many).2]) := by
  have hPO : PO (bs.map (·.1)) (psOf bs) := ⟨by unfold psOf; rw [List.map_map]; rfl, h.nd, by rw [List.length_map]; exact h.len, fun x hx => by
    obtain ⟨b, hb, rfl⟩ := List.mem_map.mp hx
    exact (h.pl b hb).2⟩
  obtain ⟨hd1, hd2⟩ := days_map h.ev (rngN 1 many.toNat) (psOf bs) hPO
  unfold toldR
  generalize hz : daysS evs (rngN 1 many.toNat) (psOf bs) = z at hd1 hd2 ⊢
  refine runF_wp rfl ?_
  show Wp (F_told_days [some (.p (eLs eDb bs)), some (.p (eLs evD evs)), some (.p (.int many)), none, none, none, none, none, none, none, none]) _
  unfold F_told_days
  refine w_seq (e1 := [some (.p (eLs eDb bs)), some (.p (eLs evD evs)), some (.p (.int many)), some (psT []), none, none, none, none, none, none, none]) (w_set2 (e_dn (kk := kS) (dd := D.int)) rfl rfl) ?_
  refine w_for (P := fun e => ∃ u4 u5 u6, e = [some (.p (eLs eDb bs)), some (.p (eLs evD evs)), some (.p (.int many)), some (psT (psOf bs)), u4, u5, u6, none, none, none, none]) (i_l (e_v rfl)) ?_ fun e he => ?_
  · have go : ∀ (l : List Db) (ps : PSn) (u4 u5 u6 : Option T), (ps.map (·.1) ++ l.map (·.1)).Nodup → ps.length + l.length ≤ 1000 → (∀ b ∈ l, (b.2.2.map (·.1)).Nodup) → ∃ e2, loopD (gTp 3 (gAnd (gNm 4) (gAnd (gNm 5) (gAnd (gNm 6) gEnd)))) B_told_days_1 (l.map eDb) [some (.p (eLs eDb bs)), some (.p (eLs evD evs)), some (.p (.int many)), some (psT ps), u4, u5, u6, none, none, none, none] = some (.nx, e2) ∧ ∃ u4 u5 u6, e2 = [some (.p (eLs eDb bs)), some (.p (eLs evD evs)), some (.p (.int many)), some (psT (ps ++ psOf l)), u4, u5, u6, none, none, none, none] := by
      intro l
      induction l with
      | nil => intro ps u4 u5 u6 _ _ _; exact ⟨_, rfl, u4, u5, u6, by simp [psOf]⟩
      | cons b l ih =>
        intro ps u4 u5 u6 hn hl hp
        rw [List.length_cons] at hl
        rw [List.map_cons] at hn
        have hn1 : (ps.map (·.1)).Nodup := (List.nodup_append.mp hn).1
        have hn2 : b.1 ∉ ps.map (·.1) := fun z => (List.nodup_append.mp hn).2.2 _ z _ (by simp) rfl
        have hb : B_told_days_1 [some (.p (eLs eDb bs)), some (.p (eLs evD evs)), some (.p (.int many)), some (psT ps), some (.p (eS b.1)), some (.p (eS b.2.1)), some (.p (eLs (eT2 D.int D.int) b.2.2)), none, none, none, none] = some (.nx, [some (.p (eLs eDb bs)), some (.p (eLs evD evs)), some (.p (.int many)), some (psT (ps ++ [(b.1, b.2.2)])), some (.p (eS b.1)), some (.p (eS b.2.1)), some (.p (eLs (eT2 D.int D.int) b.2.2)), none, none, none, none]) := by
          unfold B_told_days_1
          rw [w_putNew hn1 (by omega) rfl (e_v rfl) hn2 (e_dictP (e_b rfl) (hp b (by simp)))]; rfl
        obtain ⟨e3, r1, v4, v5, v6, r2⟩ := ih (ps ++ [(b.1, b.2.2)]) (some (.p (eS b.1))) (some (.p (eS b.2.1))) (some (.p (eLs (eT2 D.int D.int) b.2.2))) (by simpa using hn) (by rw [List.length_append, List.length_singleton]; omega) (fun x hx => hp x (by simp [hx]))
        refine ⟨e3, ?_, v4, v5, v6, ?_⟩
        · rw [List.map_cons, loop_c]
          show (some _ : Option DL.Env).bind _ = _
          rw [bindS, kLp1_q]
          exact bnd_e hb r1
        · rw [r2]; simp [psOf]
    obtain ⟨e2, r1, r2⟩ := go bs [] none none none (by simpa using h.nd) (by simpa using h.len) (fun b hb => (h.pl b hb).1)
    exact ⟨e2, r1, by simpa using r2⟩
  · obtain ⟨u4, u5, u6, rfl⟩ := he
    refine w_seq (e1 := [some (.p (eLs eDb bs)), some (.p (eLs evD evs)), some (.p (.int many)), some (psT z.2), u4, u5, u6, some (oE pairE z.1), none, none, none]) (w_set2 (e_compS (dd := D.int) (E := pairE) (fn := dayF (bs.map (·.1)) evs) (xs := rngN 1 many.toNat) (s := psOf bs) (z := z) (fun ps => [some (.p (eLs eDb bs)), some (.p (eLs evD evs)), some (.p (.int many)), some (psT ps), u4, u5, u6, none, none, none, none]) (i_r2 (a := 1) (b := many + 1) (xs := rngN 1 many.toNat) (a_c e_c (a_c (e_op (e_v rfl) e_c rfl) a_n)) (by rw [rng2_eq (by decide) (by decide) (by have := h.m; omega) (by have := h.m; omega)]; congr 2; omega)) rfl (by unfold compS; rw [if_pos (by rw [rngN_len]; have := h.m; omega)]; exact hd1) ?_) rfl rfl) ?_
    · intro d ps y ps2 hf
      unfold dayF at hf
      split at hf
      · rename_i hP
        cases hf
        exact ⟨_, rfl, _, rfl, _, e_callM (p_nm rfl) (a_c (e_v rfl) (a_c (e_v rfl) a_n)) rfl rfl (one_day_ok hP h.ev d).1 rfl, rfl⟩
      · cases hf
    refine w_seq (e1 := [some (.p (eLs eDb bs)), some (.p (eLs evD evs)), some (.p (.int many)), some (psT z.2), u4, u5, u6, some (oE pairE z.1), none, some (oL eP []), none]) (w_set2 (e_l a_n rfl rfl) rfl rfl) ?_
    refine w_for (P := fun e => ∃ u4 u10, e = [some (.p (eLs eDb bs)), some (.p (eLs evD evs)), some (.p (.int many)), some (.p (psD z.2)), u4, u5, u6, some (oE pairE z.1), none, some (oL eP (leftS z.2)), u10]) (i_ky (ek := eS) (kk := kS) (dd := eKd kI D.int) (kv := z.2) (fun _ => rfl) (e_vp rfl)) ?_ fun e he => ?_
    · have go : ∀ (post pre : PSn) (s : LS) (u4 u10 : Option T), z.2 = pre ++ post → s.length + post.length ≤ 1000 → ∃ e2, loopD (gNm 4) B_told_days_2 ((post.map Prod.fst).map eS) [some (.p (eLs eDb bs)), some (.p (eLs evD evs)), some (.p (.int many)), some (.p (psD z.2)), u4, u5, u6, some (oE pairE z.1), none, some (oL eP s), u10] = some (.nx, e2) ∧ ∃ u4 u10, e2 = [some (.p (eLs eDb bs)), some (.p (eLs evD evs)), some (.p (.int many)), some (.p (psD z.2)), u4, u5, u6, some (oE pairE z.1), none, some (oL eP (fold1 leftF post s)), u10] := by
        intro post
        induction post with
        | nil => intro pre s u4 u10 _ _; exact ⟨_, rfl, u4, u10, rfl⟩
        | cons x post ih =>
          intro pre s u4 u10 hz2 hl
          rw [List.length_cons] at hl
          have hlk : lkN z.2 x.1 = some x.2 := by
            have := hd2.nn
            rw [hz2] at this ⊢
            exact lk_pre this
          have hb : Wp (B_told_days_2 [some (.p (eLs eDb bs)), some (.p (eLs evD evs)), some (.p (.int many)), some (.p (psD z.2)), some (.p (eS x.1)), u5, u6, some (oE pairE z.1), none, some (oL eP s), u10]) fun fl e2 => fl = .nx ∧ e2 = [some (.p (eLs eDb bs)), some (.p (eLs evD evs)), some (.p (.int many)), some (.p (psD z.2)), some (.p (eS x.1)), u5, u6, some (oE pairE z.1), none, some (oL eP (leftF x s)), some (.p (.int (sumL x.2)))] := by
            unfold B_told_days_2
            refine w_seq (e1 := [some (.p (eLs eDb bs)), some (.p (eLs evD evs)), some (.p (.int many)), some (.p (psD z.2)), some (.p (eS x.1)), u5, u6, some (oE pairE z.1), none, some (oL eP s), some (.p (.int (sumL x.2)))]) (w_set2 (e_b1 (e_valsP rfl (e_v rfl) hlk) (g_sumO _)) rfl rfl) ?_
            refine w_one ?_
            refine w_if2 (c_t (e_cmp (r := decide (0 < sumL x.2)) (e_b rfl) e_c (u_p _) (u_p _) rfl)) (fun h2 => ?_) (fun h2 => ?_)
            · have e2 : leftF x s = s ++ [(x.1, sumL x.2)] := if_pos (of_decide_eq_true h2)
              rw [e2]
              refine w_seq (e1 := [some (.p (eLs eDb bs)), some (.p (eLs evD evs)), some (.p (.int many)), some (.p (psD z.2)), some (.p (eS x.1)), u5, u6, some (oE pairE z.1), none, some (oL eP (s ++ [(x.1, sumL x.2)])), some (.p (.int (sumL x.2)))]) (w_appL2 (dd := eP) rfl (e_fz (d := eP (x.1, sumL x.2)) (e_t (a_c (e_v rfl) (a_c (e_v rfl) a_n)) rfl (show _ = ((.p (eP (x.1, sumL x.2))) : T) from rfl)) (u_p _)) rfl (push_eq (by omega)) rfl) ?_
              exact w_nx ⟨rfl, rfl⟩
            · have e2 : leftF x s = s := if_neg (of_decide_eq_false h2)
              rw [e2]
              refine w_snx ?_
              exact w_nx ⟨rfl, rfl⟩
          obtain ⟨fl, e2, q1, q2, q3⟩ := hb
          subst q2; subst q3
          have hs : (leftF x s).length ≤ s.length + 1 := by
            unfold leftF
            split
            · rw [List.length_append, List.length_singleton]; omega
            · omega
          obtain ⟨e3, r1, r2⟩ := ih (pre ++ [x]) (leftF x s) (some (.p (eS x.1))) (some (.p (.int (sumL x.2)))) (by rw [hz2]; simp) (by omega)
          refine ⟨e3, ?_, r2⟩
          rw [List.map_cons, List.map_cons, loop_c]
          show (some _ : Option DL.Env).bind _ = _
          rw [bindS, kLp1_q]
          exact bnd_e q1 r1
      obtain ⟨e2, r1, r2⟩ := go z.2 [] [] u4 none rfl (by have := hd2.pl; simpa using this)
      refine ⟨e2, r1, ?_⟩
      rw [left_fold] at r2
      exact r2
    · obtain ⟨u4, u10, rfl⟩ := he
      refine w_one ?_
      exact w_sret (e_t (a_c (e_m rfl) (a_c (e_m rfl) a_n)) rfl (show _ = ((.tup [oE pairE z.1, oL eP (leftS z.2)]) : T) from rfl)) (Or.inl rfl)
theorem evD_inj {a b : Ev} (ha : a.1 ≠ cod "late" → a.2.2.2 = 0) (hb : b.1 ≠ cod "late" → b.2.2.2 = 0) (h : evD a = evD b) : a = b := by
  obtain ⟨a1, a2, a3, a4⟩ := a
  obtain ⟨b1, b2, b3, b4⟩ := b
  unfold evD at h
  by_cases c1 : a1 = cod "late" <;> by_cases c2 : b1 = cod "late"
  · rw [if_pos c1, if_pos c2] at h
    simp only [evT, D.tup.injEq, List.cons.injEq, D.str.injEq, sg_inj, D.int.injEq] at h
    obtain ⟨_, h2, h3, h4, _⟩ := h
    rw [c1, c2, h2, h3, h4]
  · rw [if_pos c1, if_neg c2] at h
    simp [evT, evS] at h
  · rw [if_neg c1, if_pos c2] at h
    simp [evT, evS] at h
  · rw [if_neg c1, if_neg c2] at h
    have k1 := ha c1
    have k2 := hb c2
    simp only [evS, D.tup.injEq, List.cons.injEq, D.str.injEq, sg_inj, D.int.injEq] at h
    obtain ⟨h1, h2, h3, _⟩ := h
    simp only at k1 k2
    rw [h1, h2, h3, k1, k2]
theorem map_inj {α β : Type} {f : α → β} {P : α → Prop} (hf : ∀ a b, P a → P b → f a = f b → a = b) : ∀ {xs ys : List α}, (∀ a ∈ xs, P a) → (∀ a ∈ ys, P a) → xs.map f = ys.map f → xs = ys
  | [], [], _, _, _ => rfl
  | [], _ :: _, _, _, h => by cases h
  | _ :: _, [], _, _, h => by cases h
  | x :: xs, y :: ys, hx, hy, h => by
    rw [List.map_cons, List.map_cons] at h
    obtain ⟨h1, h2⟩ := List.cons.inj h
    rw [hf x y (hx x (by simp)) (hy y (by simp)) h1, map_inj hf (fun a ha => hx a (by simp [ha])) (fun a ha => hy a (by simp [ha])) h2]
open Classical in
noncomputable def n_told_days (bs : List Db) (es : List D) (many : Int) : Option (List (LS × LS) × LS) :=
  if h : ∃ evs : List Ev, es = evs.map evD ∧ TOk bs evs many then some (toldR bs h.choose many) else none
theorem n_told {bs : List Db} {evs : List Ev} {many : Int} (h : TOk bs evs many) : n_told_days bs (evs.map evD) many = some (toldR bs evs many) := by
  have hx : ∃ evs2 : List Ev, evs.map evD = evs2.map evD ∧ TOk bs evs2 many := ⟨evs, rfl, h⟩
  unfold n_told_days
  rw [dif_pos hx]
  have h2 := hx.choose_spec
  have : evs = hx.choose := map_inj (P := fun e : Ev => e.1 ≠ cod "late" → e.2.2.2 = 0) (fun a b => evD_inj) h.k0 h2.2.k0 h2.1
  rw [← this]
theorem l_told_days {bs : List Db} {es : List D} {many : Int} {r : List (LS × LS) × LS} (h : n_told_days bs es many = some r) : phi_told_days [eLs eDb bs, eLs eD es, .int many] = some (.tup [oE pairE r.1, oL eP r.2]) := by
  unfold n_told_days at h
  split at h
  · rename_i hx
    have h := Option.some.inj h
    subst h
    have h2 := hx.choose_spec
    have e1 : (eLs eD es : D) = eLs evD hx.choose := by
      show D.lst (es.map eD) = D.lst (hx.choose.map evD)
      rw [← h2.1]
      exact congrArg D.lst (List.map_id es)
    rw [e1]
    exact told_days_ok h2.2
  · cases h
end K15
set_option maxHeartbeats 2000000
namespace K15
noncomputable section
open PySem PySem.Spec PyProof.Rows L2 DL
abbrev TII : Type := Int × Int
abbrev eTII : TII → D := eT2 D.int D.int
abbrev R1 : Type := Nm × Nm × (List TII)
abbrev eR1 : R1 → D := eT3 eS eS (eLs eTII)
abbrev TSSII : Type := Nm × Nm × Int × Int
abbrev eTSSII : TSSII → D := eT4 eS eS D.int D.int
abbrev TSSI : Type := Nm × Nm × Int
abbrev eTSSI : TSSI → D := eT3 eS eS D.int
abbrev TSIS : Type := Nm × Int × Nm
abbrev eTSIS : TSIS → D := eT3 eS D.int eS
abbrev TSI : Type := Nm × Int
abbrev eTSI : TSI → D := eT2 eS D.int
abbrev R2 : Type := (List TSI) × (List TSI)
abbrev eR2 : R2 → D := eT2 (eLs eTSI) (eLs eTSI)
abbrev R3 : Type := (List R2) × (List TSI)
abbrev eR3 : R3 → D := eT2 (eLs eR2) (eLs eTSI)
def n_law_cell (p_law_script : List Int) (p_law_k : Int) : Option Int :=
  (if (decide (p_law_k < (p_law_script.length : Int))) = true then
  ((atI p_law_script p_law_k).bind fun x1 =>
  some x1)
  else (some (0 : Int)))
theorem l_law_cell {p_law_script : List Int} {p_law_k : Int} {r : Int} (h : n_law_cell p_law_script p_law_k = some r) : phi_law_cell [(eLs D.int p_law_script), (D.int p_law_k)] = some (.p (D.int r)) := by
  unfold n_law_cell at h
  refine runF_wp rfl ?_
  show Wp (F_law_cell [some (.p (eLs D.int p_law_script)), some (.p (D.int p_law_k))]) _
  unfold F_law_cell
  refine w_if (c_t (e_cmp (e_b rfl) (e_b1 (e_b rfl) (g_lenL _ _)) (u_p _) (u_p _) rfl)) h (fun hb h => ?_) (fun hb h => ?_)
  · refine bnd h fun x1 hx1 h => ?_
    have h := Option.some.inj h
    subst h
    exact w_sret (e_w (e_ix (e_b rfl) (e_v rfl) (x_l hx1))) (Or.inl rfl)
  · refine w_snx ?_
    refine w_one ?_
    have h := Option.some.inj h
    subst h
    exact w_sret e_c (Or.inl rfl)
def n_law_mixed (p_law_cell_here : Int) (p_law_k : Int) : Option Int :=
  (mulN p_law_k p_law_k).bind fun x1 =>
  (mulN ((((p_law_cell_here % (2147483647 : Int)) * (48271 : Int)) + (((x1 + ((3 : Int) * p_law_k)) + (7 : Int)) * (69621 : Int))) % (2147483647 : Int)) ((((p_law_cell_here % (2147483647 : Int)) * (48271 : Int)) + (((x1 + ((3 : Int) * p_law_k)) + (7 : Int)) * (69621 : Int))) % (2147483647 : Int))).bind fun x2 =>
  some (x2 % (2147483647 : Int))
theorem l_law_mixed {p_law_cell_here : Int} {p_law_k : Int} {r : Int} (h : n_law_mixed p_law_cell_here p_law_k = some r) : phi_law_mixed [(D.int p_law_cell_here), (D.int p_law_k)] = some (.p (D.int r)) := by
  unfold n_law_mixed at h
  refine runF_wp rfl ?_
  show Wp (F_law_mixed [some (.p (D.int p_law_cell_here)), some (.p (D.int p_law_k)), none]) _
  unfold F_law_mixed
  refine bnd h fun x1 hx1 h => ?_
  refine w_seq (e1 := [some (.p (D.int p_law_cell_here)), some (.p (D.int p_law_k)), some (.p (D.int ((((p_law_cell_here % (2147483647 : Int)) * (48271 : Int)) + (((x1 + ((3 : Int) * p_law_k)) + (7 : Int)) * (69621 : Int))) % (2147483647 : Int))))]) (w_set2 (e_op (e_op (e_op (e_op (e_v rfl) e_c (g_modR rfl)) e_c (g_mulR rfl)) (e_op (e_op (e_op (e_op (e_v rfl) (e_v rfl) (g_mul hx1)) (e_op e_c (e_v rfl) (g_mulL rfl)) rfl) e_c rfl) e_c (g_mulR rfl)) rfl) e_c (g_modR rfl)) rfl rfl) ?_
  refine w_one ?_
  refine bnd h fun x2 hx2 h => ?_
  have h := Option.some.inj h
  subst h
  exact w_sret (e_op (e_op (e_v rfl) (e_v rfl) (g_mul hx2)) e_c (g_modR rfl)) (Or.inl rfl)
def n_law_names (p_law_cell_here : Int) (p_law_many : Int) : Option (List Nm) :=
  (n_law_mixed p_law_cell_here (3 : Int)).bind fun x1 =>
  (ixS (cod "abcdefghijklmnpqrstuvwxyz") (x1 % (25 : Int))).bind fun x2 =>
  (if ((decide (((x1 / (25 : Int)) % (3 : Int)) = (0 : Int))) && (decide (p_law_many < (9 : Int)))) = true then
  ((rng1  p_law_many).bind fun x3 =>
  (compO (fun (x4 : Int) => (repN x2 (p_law_many - x4)).bind fun x5 =>
  some x5) x3).bind fun c6 =>
  some c6)
  else ((modN (x1 / (525 : Int)) ((2 : Int) + ((x1 / (75 : Int)) % (7 : Int)))).bind fun x7 =>
  (rng1  p_law_many).bind fun x8 =>
  (fold (fun (x10 : Int) (s9 : (List Nm)) =>
  (rng1  ((2 : Int) + ((x1 / (75 : Int)) % (7 : Int)))).bind fun x14 =>
  (compT (fun (x15 : Int) => x2) x14).bind fun c16 =>
  (ixS (cod "bcdfghjklmnpqrstvwxz") (((x1 / (4200 : Int)) + ((3 : Int) * x10)) % (20 : Int))).bind fun x17 =>
  (putI c16 x7 x17).bind fun x18 =>
  (ixS (cod "bcdfghjklmnpqrstvwxz") (((x1 / (84000 : Int)) + (x10 / (20 : Int))) % (20 : Int))).bind fun x19 =>
  (modN (x7 + (1 : Int)) ((2 : Int) + ((x1 / (75 : Int)) % (7 : Int)))).bind fun x20 =>
  (putI x18 x20 x19).bind fun x21 =>
  (joinN (cod "") x21).bind fun x22 =>
  (push s9 x22).bind fun x23 =>
  some x23) x8 ([] : List Nm)).bind fun s24 =>
  some s24))
theorem l_law_names {p_law_cell_here : Int} {p_law_many : Int} {r : List Nm} (h : n_law_names p_law_cell_here p_law_many = some r) : phi_law_names [(D.int p_law_cell_here), (D.int p_law_many)] = some (oL eS r) := by
  unfold n_law_names at h
  refine runF_wp rfl ?_
  show Wp (F_law_names [some (.p (D.int p_law_cell_here)), some (.p (D.int p_law_many)), none, none, none, none, none, none, none, none, none]) _
  unfold F_law_names
  refine bnd h fun x1 hx1 h => ?_
  refine w_seq (e1 := [some (.p (D.int p_law_cell_here)), some (.p (D.int p_law_many)), some (.p (D.int x1)), none, none, none, none, none, none, none, none]) (w_set2 (e_fz (d := (D.int x1)) (e_call (a_c (e_v rfl) (a_c e_c a_n)) rfl (l_law_mixed hx1)) (u_p _)) rfl rfl) ?_
  refine bnd h fun x2 hx2 h => ?_
  refine w_seq (e1 := [some (.p (D.int p_law_cell_here)), some (.p (D.int p_law_many)), some (.p (D.int x1)), some (.p (eS x2)), none, none, none, none, none, none, none]) (w_set2 (e_w (e_ix (e_s "abcdefghijklmnpqrstuvwxyz") (e_op (e_v rfl) e_c (g_modR rfl)) (x_s hx2))) rfl rfl) ?_
  refine w_seq (e1 := [some (.p (D.int p_law_cell_here)), some (.p (D.int p_law_many)), some (.p (D.int x1)), some (.p (eS x2)), some (.p (eS (cod "bcdfghjklmnpqrstvwxz"))), none, none, none, none, none, none]) (w_set2 (e_s "bcdfghjklmnpqrstvwxz") rfl rfl) ?_
  refine w_if (c_and (c_t (e_cmp (e_op (e_op (e_v rfl) e_c (g_divR rfl)) e_c (g_modR rfl)) e_c (u_p _) (u_p _) eqQ_i)) (c_t (e_cmp (e_b rfl) e_c (u_p _) (u_p _) rfl))) h (fun hb h => ?_) (fun hb h => ?_)
  · refine bnd h fun x3 hx3 h => ?_
    refine bnd h fun c6 hc6 h => ?_
    have h := Option.some.inj h
    subst h
    exact w_sret (e_compP (w := [some (.p (D.int p_law_cell_here)), some (.p (D.int p_law_many)), some (.p (D.int x1)), some (.p (eS x2)), some (.p (eS (cod "bcdfghjklmnpqrstvwxz"))), none, none, none, none, none, none]) (dd := D.int) (E := eS) (i_r1 (a_c (e_v rfl) a_n) hx3) rfl ((compO_F _ _).symm.trans hc6) (fun x4 => ⟨_, rfl, _, rfl, (fun hp => nomatch hp), fun y hp h => by
    refine bnd h fun x5 hx5 h => ?_
    have h := Option.some.inj h; subst h
    exact ⟨_, (e_op (e_v rfl) (e_op (e_v rfl) (e_v rfl) rfl) (g_rep hx5)), rfl⟩⟩)) (Or.inl rfl)
  · refine w_snx ?_
    refine w_seq (e1 := [some (.p (D.int p_law_cell_here)), some (.p (D.int p_law_many)), some (.p (D.int x1)), some (.p (eS x2)), some (.p (eS (cod "bcdfghjklmnpqrstvwxz"))), none, some (.p (D.int ((2 : Int) + ((x1 / (75 : Int)) % (7 : Int))))), none, none, none, none]) (w_set2 (e_op e_c (e_op (e_op (e_v rfl) e_c (g_divR rfl)) e_c (g_modR rfl)) rfl) rfl rfl) ?_
    refine bnd h fun x7 hx7 h => ?_
    refine w_seq (e1 := [some (.p (D.int p_law_cell_here)), some (.p (D.int p_law_many)), some (.p (D.int x1)), some (.p (eS x2)), some (.p (eS (cod "bcdfghjklmnpqrstvwxz"))), none, some (.p (D.int ((2 : Int) + ((x1 / (75 : Int)) % (7 : Int))))), some (.p (D.int x7)), none, none, none]) (w_set2 (e_op (e_op (e_v rfl) e_c (g_divR rfl)) (e_v rfl) (g_mod hx7)) rfl rfl) ?_
    refine w_seq (e1 := [some (.p (D.int p_law_cell_here)), some (.p (D.int p_law_many)), some (.p (D.int x1)), some (.p (eS x2)), some (.p (eS (cod "bcdfghjklmnpqrstvwxz"))), none, some (.p (D.int ((2 : Int) + ((x1 / (75 : Int)) % (7 : Int))))), some (.p (D.int x7)), some (oL eS ([] : List Nm)), none, none]) (w_set2 (e_l a_n rfl rfl) rfl rfl) ?_
    refine bnd h fun x8 hx8 h => ?_
    refine bnd h fun s24 hs24 h => ?_
    refine w_for (P := (fun e => ∃ u11, ∃ u12, ∃ u13, e = [some (.p (D.int p_law_cell_here)), some (.p (D.int p_law_many)), some (.p (D.int x1)), some (.p (eS x2)), some (.p (eS (cod "bcdfghjklmnpqrstvwxz"))), u11, some (.p (D.int ((2 : Int) + ((x1 / (75 : Int)) % (7 : Int))))), some (.p (D.int x7)), some (oL eS s24), u12, u13])) (i_r1 (a_c (e_v rfl) a_n) hx8) (loop_fold (dd := D.int) (fun (s9 : (List Nm)) e => ∃ u11, ∃ u12, ∃ u13, e = [some (.p (D.int p_law_cell_here)), some (.p (D.int p_law_many)), some (.p (D.int x1)), some (.p (eS x2)), some (.p (eS (cod "bcdfghjklmnpqrstvwxz"))), u11, some (.p (D.int ((2 : Int) + ((x1 / (75 : Int)) % (7 : Int))))), some (.p (D.int x7)), some (oL eS s9), u12, u13]) ?_ _ _ _ _ ⟨_, _, _, rfl⟩ hs24) (fun e he => ?_)
    · intro x10 s9 sN env hR h
      obtain ⟨u11, u12, u13, rfl⟩ := hR
      refine ⟨_, rfl, ?_⟩
      unfold B_law_names_1
      refine bnd h fun x14 hx14 h => ?_
      refine bnd h fun c16 hc16 h => ?_
      refine w_seq (e1 := [some (.p (D.int p_law_cell_here)), some (.p (D.int p_law_many)), some (.p (D.int x1)), some (.p (eS x2)), some (.p (eS (cod "bcdfghjklmnpqrstvwxz"))), some (.p (D.int x10)), some (.p (D.int ((2 : Int) + ((x1 / (75 : Int)) % (7 : Int))))), some (.p (D.int x7)), some (oL eS s9), some (oL eS c16), none]) (w_set2 (e_compP (w := [some (.p (D.int p_law_cell_here)), some (.p (D.int p_law_many)), some (.p (D.int x1)), some (.p (eS x2)), some (.p (eS (cod "bcdfghjklmnpqrstvwxz"))), some (.p (D.int x10)), some (.p (D.int ((2 : Int) + ((x1 / (75 : Int)) % (7 : Int))))), some (.p (D.int x7)), some (oL eS s9), u12, none]) (dd := D.int) (E := eS) (i_r1 (a_c (e_v rfl) a_n) hx14) rfl ((compT_F _ _).symm.trans hc16) (fun x15 => ⟨_, rfl, _, rfl, (fun hp => nomatch hp), fun y hp h => by
    have h := Option.some.inj h; subst h
    exact ⟨_, (e_v rfl), rfl⟩⟩)) rfl rfl) ?_
      refine bnd h fun x17 hx17 h => ?_
      refine bnd h fun x18 hx18 h => ?_
      refine w_seq (e1 := [some (.p (D.int p_law_cell_here)), some (.p (D.int p_law_many)), some (.p (D.int x1)), some (.p (eS x2)), some (.p (eS (cod "bcdfghjklmnpqrstvwxz"))), some (.p (D.int x10)), some (.p (D.int ((2 : Int) + ((x1 / (75 : Int)) % (7 : Int))))), some (.p (D.int x7)), some (oL eS s9), some (oL eS x18), none]) (w_putL2 (dd := eS) (e_w (e_ix (e_b rfl) (e_op (e_op (e_op (e_v rfl) e_c (g_divR rfl)) (e_op e_c (e_v rfl) (g_mulL rfl)) rfl) e_c (g_modR rfl)) (x_s hx17))) rfl (e_v rfl) rfl hx18 rfl) ?_
      refine bnd h fun x19 hx19 h => ?_
      refine bnd h fun x20 hx20 h => ?_
      refine bnd h fun x21 hx21 h => ?_
      refine w_seq (e1 := [some (.p (D.int p_law_cell_here)), some (.p (D.int p_law_many)), some (.p (D.int x1)), some (.p (eS x2)), some (.p (eS (cod "bcdfghjklmnpqrstvwxz"))), some (.p (D.int x10)), some (.p (D.int ((2 : Int) + ((x1 / (75 : Int)) % (7 : Int))))), some (.p (D.int x7)), some (oL eS s9), some (oL eS x21), none]) (w_putL2 (dd := eS) (e_w (e_ix (e_b rfl) (e_op (e_op (e_op (e_v rfl) e_c (g_divR rfl)) (e_op (e_v rfl) e_c (g_divR rfl)) rfl) e_c (g_modR rfl)) (x_s hx19))) rfl (e_op (e_op (e_v rfl) e_c rfl) (e_v rfl) (g_mod hx20)) rfl hx21 rfl) ?_
      refine w_one ?_
      refine bnd h fun x22 hx22 h => ?_
      refine bnd h fun x23 hx23 h => ?_
      refine w_seq (e1 := [some (.p (D.int p_law_cell_here)), some (.p (D.int p_law_many)), some (.p (D.int x1)), some (.p (eS x2)), some (.p (eS (cod "bcdfghjklmnpqrstvwxz"))), some (.p (D.int x10)), some (.p (D.int ((2 : Int) + ((x1 / (75 : Int)) % (7 : Int))))), some (.p (D.int x7)), some (oL eS x23), some (oL eS x21), none]) (w_appL2 (dd := eS) rfl (e_join (e_s "") (e_b rfl) (it_o _ _) hx22) rfl hx23 rfl) ?_
      have h := Option.some.inj h
      subst h
      exact w_nx ⟨Or.inl rfl, ⟨_, _, _, rfl⟩⟩
    · obtain ⟨u11, u12, u13, rfl⟩ := he
      refine w_one ?_
      have h := Option.some.inj h
      subst h
      exact w_sret (e_m rfl) (Or.inl rfl)
def n_law_coins (p_law_cell_here : Int) (p_law_way : Int) (p_law_most : Int) : Option Int :=
  (if (decide ((p_law_way % (5 : Int)) = (0 : Int))) = true then
  (some (1 : Int))
  else ((if (decide ((p_law_way % (5 : Int)) = (1 : Int))) = true then
  (some p_law_most)
  else ((if (decide ((p_law_way % (5 : Int)) = (2 : Int))) = true then
  (some ((1 : Int) + (p_law_cell_here % (7 : Int))))
  else ((if (decide ((p_law_way % (5 : Int)) = (3 : Int))) = true then
  ((modN p_law_cell_here p_law_most).bind fun x1 =>
  some ((1 : Int) + x1))
  else ((modN p_law_cell_here p_law_most).bind fun x2 =>
  (mulN (x2 + (1 : Int)) (p_law_way + (48271 : Int))).bind fun x3 =>
  (modN (x3 * (99999999999999997 : Int)) p_law_most).bind fun x4 =>
  some ((1 : Int) + x4)))))))))
theorem l_law_coins {p_law_cell_here : Int} {p_law_way : Int} {p_law_most : Int} {r : Int} (h : n_law_coins p_law_cell_here p_law_way p_law_most = some r) : phi_law_coins [(D.int p_law_cell_here), (D.int p_law_way), (D.int p_law_most)] = some (.p (D.int r)) := by
  unfold n_law_coins at h
  refine runF_wp rfl ?_
  show Wp (F_law_coins [some (.p (D.int p_law_cell_here)), some (.p (D.int p_law_way)), some (.p (D.int p_law_most))]) _
  unfold F_law_coins
  refine w_if (c_t (e_cmp (e_op (e_v rfl) e_c (g_modR rfl)) e_c (u_p _) (u_p _) eqQ_i)) h (fun hb h => ?_) (fun hb h => ?_)
  · have h := Option.some.inj h
    subst h
    exact w_sret e_c (Or.inl rfl)
  · refine w_snx ?_
    refine w_if (c_t (e_cmp (e_op (e_v rfl) e_c (g_modR rfl)) e_c (u_p _) (u_p _) eqQ_i)) h (fun hb h => ?_) (fun hb h => ?_)
    · have h := Option.some.inj h
      subst h
      exact w_sret (e_m rfl) (Or.inl rfl)
    · refine w_snx ?_
      refine w_if (c_t (e_cmp (e_op (e_v rfl) e_c (g_modR rfl)) e_c (u_p _) (u_p _) eqQ_i)) h (fun hb h => ?_) (fun hb h => ?_)
      · have h := Option.some.inj h
        subst h
        exact w_sret (e_op e_c (e_op (e_v rfl) e_c (g_modR rfl)) rfl) (Or.inl rfl)
      · refine w_snx ?_
        refine w_if (c_t (e_cmp (e_op (e_v rfl) e_c (g_modR rfl)) e_c (u_p _) (u_p _) eqQ_i)) h (fun hb h => ?_) (fun hb h => ?_)
        · refine bnd h fun x1 hx1 h => ?_
          have h := Option.some.inj h
          subst h
          exact w_sret (e_op e_c (e_op (e_v rfl) (e_v rfl) (g_mod hx1)) rfl) (Or.inl rfl)
        · refine w_snx ?_
          refine w_one ?_
          refine bnd h fun x2 hx2 h => ?_
          refine bnd h fun x3 hx3 h => ?_
          refine bnd h fun x4 hx4 h => ?_
          have h := Option.some.inj h
          subst h
          exact w_sret (e_op e_c (e_op (e_op (e_op (e_op (e_op (e_v rfl) (e_v rfl) (g_mod hx2)) e_c rfl) (e_op (e_v rfl) e_c rfl) (g_mul hx3)) e_c (g_mulR rfl)) (e_v rfl) (g_mod hx4)) rfl) (Or.inl rfl)
def n_law_plan (p_law_cell_here : Int) (p_law_k : Int) : Option (List TII) :=
  (n_law_mixed p_law_cell_here (p_law_k + (20 : Int))).bind fun x1 =>
  (if (decide ((p_law_k % (5 : Int)) = (0 : Int))) = true then ((n_law_mixed p_law_cell_here (p_law_k + (20 : Int))).bind fun x2 =>
  some (decide (((x2 / (5 : Int)) % (3 : Int)) = (1 : Int)))) else some false).bind fun x3 =>
  ((if x3 = true then
  (some (12 : Int))
  else (some ((1 : Int) + (x1 % (5 : Int))))) : Option Int).bind fun s4 =>
  (rng1  s4).bind fun x5 =>
  (foldB (ρ := List TII) (fun (x7 : Int) (s6 : (List TII) × Int) =>
  (n_law_mixed p_law_cell_here (((40 : Int) + ((13 : Int) * p_law_k)) + x7)).bind fun x10 =>
  (n_law_mixed p_law_cell_here p_law_k).bind fun x11 =>
  (atI [(5 : Int), (12 : Int), (1 : Int)] (x11 % (3 : Int))).bind fun x12 =>
  (modN x10 x12).bind fun x13 =>
  (if (decide ((60 : Int) < ((s6.2 + (1 : Int)) + x13))) = true then
  (some (Lp.bk (s6.1, ((s6.2 + (1 : Int)) + x13))))
  else ((n_law_coins (p_law_cell_here + x7) ((x10 / (60 : Int)) % (1009 : Int)) (1000000000000 : Int)).bind fun x14 =>
  (push s6.1 (((s6.2 + (1 : Int)) + x13), x14)).bind fun x15 =>
  some (Lp.nx (x15, ((s6.2 + (1 : Int)) + x13)))))) x5 (([] : List TII), (0 : Int))).bind (lpK (fun s16 =>
  some s16.1) (fun r => some r))
theorem l_law_plan {p_law_cell_here : Int} {p_law_k : Int} {r : List TII} (h : n_law_plan p_law_cell_here p_law_k = some r) : phi_law_plan [(D.int p_law_cell_here), (D.int p_law_k)] = some (oL eTII r) := by
  unfold n_law_plan at h
  refine runF_wp rfl ?_
  show Wp (F_law_plan [some (.p (D.int p_law_cell_here)), some (.p (D.int p_law_k)), none, none, none, none, none]) _
  unfold F_law_plan
  refine bnd h fun x1 hx1 h => ?_
  refine w_seq (e1 := [some (.p (D.int p_law_cell_here)), some (.p (D.int p_law_k)), some (.p (D.int ((1 : Int) + (x1 % (5 : Int))))), none, none, none, none]) (w_set2 (e_op e_c (e_op (e_call (a_c (e_v rfl) (a_c (e_op (e_v rfl) e_c rfl) a_n)) rfl (l_law_mixed hx1)) e_c (g_modR rfl)) rfl) rfl rfl) ?_
  refine bnd h fun x3 hx3 h => ?_
  refine bnd h fun s4 hs4 h => ?_
  refine w_join (P := (fun e => e = [some (.p (D.int p_law_cell_here)), some (.p (D.int p_law_k)), some (.p (D.int s4)), none, none, none, none])) ?_ (fun e he => ?_)
  · have h := hs4
    refine w_one ?_
    refine w_if (c_andO (c_t (e_cmp (e_op (e_v rfl) e_c (g_modR rfl)) e_c (u_p _) (u_p _) eqQ_i)) hx3 (fun _ h => by
    refine bnd h fun x2 hx2 h => ?_
    have h := Option.some.inj h; subst h
    exact (c_t (e_cmp (e_op (e_op (e_call (a_c (e_v rfl) (a_c (e_op (e_v rfl) e_c rfl) a_n)) rfl (l_law_mixed hx2)) e_c (g_divR rfl)) e_c (g_modR rfl)) e_c (u_p _) (u_p _) eqQ_i)))) h (fun hb h => ?_) (fun hb h => ?_)
    · refine w_un ?_
      refine w_one ?_
      refine w_seq (e1 := [some (.p (D.int p_law_cell_here)), some (.p (D.int p_law_k)), some (.p (D.int (12 : Int))), none, none, none, none]) (w_set2 e_c rfl rfl) ?_
      have h := Option.some.inj h
      subst h
      exact w_nx ⟨rfl, rfl⟩
    · refine w_un ?_
      have h := Option.some.inj h
      subst h
      exact w_nx ⟨rfl, rfl⟩
  · subst he
    refine w_seq (e1 := [some (.p (D.int p_law_cell_here)), some (.p (D.int p_law_k)), some (.p (D.int s4)), some (oL eTII ([] : List TII)), none, none, none]) (w_set2 (e_l a_n rfl rfl) rfl rfl) ?_
    refine w_seq (e1 := [some (.p (D.int p_law_cell_here)), some (.p (D.int p_law_k)), some (.p (D.int s4)), some (oL eTII ([] : List TII)), some (.p (D.int (0 : Int))), none, none]) (w_set2 e_c rfl rfl) ?_
    refine bnd h fun x5 hx5 h => ?_
    refine bnd h fun o17 ho17 h => ?_
    refine w_forB (R := (fun (s6 : (List TII) × Int) e => ∃ u8, ∃ u9, e = [some (.p (D.int p_law_cell_here)), some (.p (D.int p_law_k)), some (.p (D.int s4)), some (oL eTII s6.1), some (.p (D.int s6.2)), u8, u9])) (ET := (oL eTII)) (i_r1 (a_c (e_v rfl) a_n) hx5) (loop_foldB (dd := D.int) (fun (s6 : (List TII) × Int) e => ∃ u8, ∃ u9, e = [some (.p (D.int p_law_cell_here)), some (.p (D.int p_law_k)), some (.p (D.int s4)), some (oL eTII s6.1), some (.p (D.int s6.2)), u8, u9]) (oL eTII) ?_ _ _ _ _ ⟨_, _, rfl⟩ ho17) h (fun s16 e he h => ?_) (fun v e h => ?_)
    · intro x7 s6 sN env hR h
      obtain ⟨u8, u9, rfl⟩ := hR
      refine ⟨_, rfl, ?_⟩
      unfold B_law_plan_1
      refine bnd h fun x10 hx10 h => ?_
      refine w_seq (e1 := [some (.p (D.int p_law_cell_here)), some (.p (D.int p_law_k)), some (.p (D.int s4)), some (oL eTII s6.1), some (.p (D.int s6.2)), some (.p (D.int x7)), some (.p (D.int x10))]) (w_set2 (e_fz (d := (D.int x10)) (e_call (a_c (e_v rfl) (a_c (e_op (e_op e_c (e_op e_c (e_v rfl) (g_mulL rfl)) rfl) (e_v rfl) rfl) a_n)) rfl (l_law_mixed hx10)) (u_p _)) rfl rfl) ?_
      refine bnd h fun x11 hx11 h => ?_
      refine bnd h fun x12 hx12 h => ?_
      refine bnd h fun x13 hx13 h => ?_
      refine w_seq (e1 := [some (.p (D.int p_law_cell_here)), some (.p (D.int p_law_k)), some (.p (D.int s4)), some (oL eTII s6.1), some (.p (D.int ((s6.2 + (1 : Int)) + x13))), some (.p (D.int x7)), some (.p (D.int x10))]) (w_set2 (e_op (e_op (e_v rfl) e_c rfl) (e_op (e_v rfl) (e_w (e_ix (e_l (a_c e_c (a_c e_c (a_c e_c a_n))) rfl (show _ = ((oL D.int [(5 : Int), (12 : Int), (1 : Int)]) : T) from rfl)) (e_op (e_call (a_c (e_v rfl) (a_c (e_v rfl) a_n)) rfl (l_law_mixed hx11)) e_c (g_modR rfl)) (x_o hx12))) (g_mod hx13)) rfl) rfl rfl) ?_
      refine w_if (c_t (e_cmp (e_b rfl) e_c (u_p _) (u_p _) rfl)) h (fun hb h => ?_) (fun hb h => ?_)
      · have h := Option.some.inj h
        subst h
        exact w_sbk ⟨rfl, ⟨_, _, rfl⟩⟩
      · refine w_snx ?_
        refine w_one ?_
        refine bnd h fun x14 hx14 h => ?_
        refine bnd h fun x15 hx15 h => ?_
        refine w_seq (e1 := [some (.p (D.int p_law_cell_here)), some (.p (D.int p_law_k)), some (.p (D.int s4)), some (oL eTII x15), some (.p (D.int ((s6.2 + (1 : Int)) + x13))), some (.p (D.int x7)), some (.p (D.int x10))]) (w_appL2 (dd := eTII) rfl (e_fz (d := (eTII (((s6.2 + (1 : Int)) + x13), x14))) (e_t (a_c (e_v rfl) (a_c (e_call (a_c (e_op (e_v rfl) (e_v rfl) rfl) (a_c (e_op (e_op (e_v rfl) e_c (g_divR rfl)) e_c (g_modR rfl)) (a_c (e_op e_c e_c ((g_powR rfl).trans (congrArg (fun z => some (D.int z)) (show (10 : Int) ^ Int.toNat 12 = (1000000000000 : Int) from by decide)))) a_n))) rfl (l_law_coins hx14)) a_n)) rfl (show _ = ((.p (eTII (((s6.2 + (1 : Int)) + x13), x14))) : T) from rfl)) (u_p _)) rfl hx15 rfl) ?_
        have h := Option.some.inj h
        subst h
        exact w_nx ⟨Or.inl rfl, ⟨_, _, rfl⟩⟩
    · obtain ⟨u8, u9, rfl⟩ := he
      refine w_one ?_
      have h := Option.some.inj h
      subst h
      exact w_sret (e_m rfl) (Or.inl rfl)
    · have h := Option.some.inj h
      subst h
      exact Or.inl rfl
def n_law_debts (p_law_cells : List Int) (p_law_names_here : List Nm) (p_law_pools : List Nm) : Option (List R1) :=
  (fold (fun (x2 : TII) (s1 : (List R1)) =>
  (n_law_mixed x2.2 x2.1).bind fun x6 =>
  (if ((decide ((0 : Int) < (x6 % (3 : Int)))) && (decide ((s1.length : Int) < (p_law_names_here.length : Int)))) = true then
  ((atI p_law_names_here (s1.length : Int)).bind fun x7 =>
  (modN (x6 / (3 : Int)) (p_law_pools.length : Int)).bind fun x8 =>
  (atI p_law_pools x8).bind fun x9 =>
  (n_law_plan x2.2 x2.1).bind fun x10 =>
  (push s1 (x7, x9, x10)).bind fun x11 =>
  some x11)
  else (some s1))) (enumN 0 p_law_cells) ([] : List R1)).bind fun s12 =>
  some s12
theorem l_law_debts {p_law_cells : List Int} {p_law_names_here : List Nm} {p_law_pools : List Nm} {r : List R1} (h : n_law_debts p_law_cells p_law_names_here p_law_pools = some r) : phi_law_debts [(eLs D.int p_law_cells), (eLs eS p_law_names_here), (eLs eS p_law_pools)] = some (oL eR1 r) := by
  unfold n_law_debts at h
  refine runF_wp rfl ?_
  show Wp (F_law_debts [some (.p (eLs D.int p_law_cells)), some (.p (eLs eS p_law_names_here)), some (.p (eLs eS p_law_pools)), none, none, none, none]) _
  unfold F_law_debts
  refine w_seq (e1 := [some (.p (eLs D.int p_law_cells)), some (.p (eLs eS p_law_names_here)), some (.p (eLs eS p_law_pools)), some (oL eR1 ([] : List R1)), none, none, none]) (w_set2 (e_l a_n rfl rfl) rfl rfl) ?_
  refine bnd h fun s12 hs12 h => ?_
  refine w_for (P := (fun e => ∃ u3, ∃ u4, ∃ u5, e = [some (.p (eLs D.int p_law_cells)), some (.p (eLs eS p_law_names_here)), some (.p (eLs eS p_law_pools)), some (oL eR1 s12), u3, u4, u5])) (i_en (a_c (e_v rfl) a_n)) (loop_fold (dd := eTII) (fun (s1 : (List R1)) e => ∃ u3, ∃ u4, ∃ u5, e = [some (.p (eLs D.int p_law_cells)), some (.p (eLs eS p_law_names_here)), some (.p (eLs eS p_law_pools)), some (oL eR1 s1), u3, u4, u5]) ?_ _ _ _ _ ⟨_, _, _, rfl⟩ hs12) (fun e he => ?_)
  · intro x2 s1 sN env hR h
    obtain ⟨u3, u4, u5, rfl⟩ := hR
    refine ⟨_, rfl, ?_⟩
    unfold B_law_debts_1
    refine bnd h fun x6 hx6 h => ?_
    refine w_seq (e1 := [some (.p (eLs D.int p_law_cells)), some (.p (eLs eS p_law_names_here)), some (.p (eLs eS p_law_pools)), some (oL eR1 s1), some (.p (D.int x2.1)), some (.p (D.int x2.2)), some (.p (D.int x6))]) (w_set2 (e_fz (d := (D.int x6)) (e_call (a_c (e_v rfl) (a_c (e_v rfl) a_n)) rfl (l_law_mixed hx6)) (u_p _)) rfl rfl) ?_
    refine w_one ?_
    refine w_if (c_and (c_t (e_cmp (e_op (e_v rfl) e_c (g_modR rfl)) e_c (u_p _) (u_p _) rfl)) (c_t (e_cmp (e_b1 (e_b rfl) (g_lenO _ _)) (e_b1 (e_b rfl) (g_lenL _ _)) (u_p _) (u_p _) rfl))) h (fun hb h => ?_) (fun hb h => ?_)
    · refine bnd h fun x7 hx7 h => ?_
      refine bnd h fun x8 hx8 h => ?_
      refine bnd h fun x9 hx9 h => ?_
      refine bnd h fun x10 hx10 h => ?_
      refine bnd h fun x11 hx11 h => ?_
      refine w_seq (e1 := [some (.p (eLs D.int p_law_cells)), some (.p (eLs eS p_law_names_here)), some (.p (eLs eS p_law_pools)), some (oL eR1 x11), some (.p (D.int x2.1)), some (.p (D.int x2.2)), some (.p (D.int x6))]) (w_appL2 (dd := eR1) rfl (e_fz (d := (eR1 (x7, x9, x10))) (e_t (a_c (e_w (e_ix (e_b rfl) (e_b1 (e_b rfl) (g_lenO _ _)) (x_l hx7))) (a_c (e_w (e_ix (e_b rfl) (e_op (e_op (e_v rfl) e_c (g_divR rfl)) (e_b1 (e_b rfl) (g_lenL _ _)) (g_mod hx8)) (x_l hx9))) (a_c (e_call (a_c (e_v rfl) (a_c (e_v rfl) a_n)) rfl (l_law_plan hx10)) a_n))) rfl (show _ = ((.tup [(.p (eS ((x7, x9, x10).1))), (.p (eS ((x7, x9, x10).2.1))), (oL eTII ((x7, x9, x10).2.2))]) : T) from rfl)) (u_t (u_c (u_p _) (u_c (u_p _) (u_c (oL_toD _) u_n))))) rfl hx11 rfl) ?_
      have h := Option.some.inj h
      subst h
      exact w_nx ⟨Or.inl rfl, ⟨_, _, _, rfl⟩⟩
    · refine w_snx ?_
      have h := Option.some.inj h
      subst h
      exact w_nx ⟨Or.inl rfl, ⟨_, _, _, rfl⟩⟩
  · obtain ⟨u3, u4, u5, rfl⟩ := he
    refine w_one ?_
    have h := Option.some.inj h
    subst h
    exact w_sret (e_m rfl) (Or.inl rfl)
def n_law_events (p_law_cells : List Int) (p_law_debts_here : List R1) : Option (List D) :=
  (fold (fun (x2 : TII) (s1 : (List D)) =>
  (n_law_mixed x2.2 x2.1).bind fun x9 =>
  (if (decide ((x9 % (3 : Int)) = (0 : Int))) = true then ((eqQ (eLs eR1 p_law_debts_here) (eLs eR1 ([] : List R1))).bind fun x10 =>
  some (!x10)) else some false).bind fun x11 =>
  (if x11 = true then
  ((n_law_mixed x2.2 (x2.1 + (90 : Int))).bind fun x12 =>
  (modN x12 (p_law_debts_here.length : Int)).bind fun x13 =>
  (atI p_law_debts_here x13).bind fun x14 =>
  (atI [(6 : Int), (20 : Int), (60 : Int)] ((x12 / (7 : Int)) % (3 : Int))).bind fun x15 =>
  (modN (x12 / (31 : Int)) x15).bind fun x16 =>
  ((if (decide ((0 : Int) < ((x12 / (5 : Int)) % (3 : Int)))) = true then
  ((modN (x12 / (900 : Int)) (x14.2.2.length : Int)).bind fun x17 =>
  (atI x14.2.2 x17).bind fun x18 =>
  some x18.1)
  else (some ((1 : Int) + x16))) : Option Int).bind fun s19 =>
  (if (decide (((x9 / (3 : Int)) % (6 : Int)) < (3 : Int))) = true then
  ((atI [(3 : Int), (30 : Int)] ((x12 / (11 : Int)) % (2 : Int))).bind fun x20 =>
  (modN (x12 / (1901 : Int)) x20).bind fun x21 =>
  (push s1 (eTSSII ((cod "late"), x14.1, s19, ((1 : Int) + x21)))).bind fun x22 =>
  some x22)
  else ((atI [(cod "early"), (cod "early"), (cod "quit")] ((x9 / (3 : Int)) % (3 : Int))).bind fun x23 =>
  (push s1 (eTSSI (x23, x14.1, s19))).bind fun x24 =>
  some x24)))
  else (some s1))) (enumN 0 p_law_cells) ([] : List D)).bind fun s25 =>
  some s25
theorem l_law_events {p_law_cells : List Int} {p_law_debts_here : List R1} {r : List D} (h : n_law_events p_law_cells p_law_debts_here = some r) : phi_law_events [(eLs D.int p_law_cells), (eLs eR1 p_law_debts_here)] = some (oL eD r) := by
  unfold n_law_events at h
  refine runF_wp rfl ?_
  show Wp (F_law_events [some (.p (eLs D.int p_law_cells)), some (.p (eLs eR1 p_law_debts_here)), none, none, none, none, none, none, none]) _
  unfold F_law_events
  refine w_seq (e1 := [some (.p (eLs D.int p_law_cells)), some (.p (eLs eR1 p_law_debts_here)), some (oL eD ([] : List D)), none, none, none, none, none, none]) (w_set2 (e_l a_n rfl rfl) rfl rfl) ?_
  refine bnd h fun s25 hs25 h => ?_
  refine w_for (P := (fun e => ∃ u3, ∃ u4, ∃ u5, ∃ u6, ∃ u7, ∃ u8, e = [some (.p (eLs D.int p_law_cells)), some (.p (eLs eR1 p_law_debts_here)), some (oL eD s25), u3, u4, u5, u6, u7, u8])) (i_en (a_c (e_v rfl) a_n)) (loop_fold (dd := eTII) (fun (s1 : (List D)) e => ∃ u3, ∃ u4, ∃ u5, ∃ u6, ∃ u7, ∃ u8, e = [some (.p (eLs D.int p_law_cells)), some (.p (eLs eR1 p_law_debts_here)), some (oL eD s1), u3, u4, u5, u6, u7, u8]) ?_ _ _ _ _ ⟨_, _, _, _, _, _, rfl⟩ hs25) (fun e he => ?_)
  · intro x2 s1 sN env hR h
    obtain ⟨u3, u4, u5, u6, u7, u8, rfl⟩ := hR
    refine ⟨_, rfl, ?_⟩
    unfold B_law_events_1
    refine bnd h fun x9 hx9 h => ?_
    refine w_seq (e1 := [some (.p (eLs D.int p_law_cells)), some (.p (eLs eR1 p_law_debts_here)), some (oL eD s1), some (.p (D.int x2.1)), some (.p (D.int x2.2)), some (.p (D.int x9)), u6, u7, u8]) (w_set2 (e_fz (d := (D.int x9)) (e_call (a_c (e_v rfl) (a_c (e_v rfl) a_n)) rfl (l_law_mixed hx9)) (u_p _)) rfl rfl) ?_
    refine w_one ?_
    refine bnd h fun x11 hx11 h => ?_
    refine w_if (c_andO (c_t (e_cmp (e_op (e_v rfl) e_c (g_modR rfl)) e_c (u_p _) (u_p _) eqQ_i)) hx11 (fun _ h => by
    refine bnd h fun x10 hx10 h => ?_
    have h := Option.some.inj h; subst h
    exact (c_t (e_cmp (x := (eLs eR1 p_law_debts_here)) (y := (eLs eR1 ([] : List R1))) (e_b rfl) (e_l a_n rfl rfl) (u_p _) (oL_toD (e := eR1) ([] : List R1)) (g_ne hx10))))) h (fun hb h => ?_) (fun hb h => ?_)
    · refine w_assoc ?_
      refine bnd h fun x12 hx12 h => ?_
      refine w_seq (e1 := [some (.p (eLs D.int p_law_cells)), some (.p (eLs eR1 p_law_debts_here)), some (oL eD s1), some (.p (D.int x2.1)), some (.p (D.int x2.2)), some (.p (D.int x9)), some (.p (D.int x12)), u7, u8]) (w_set2 (e_fz (d := (D.int x12)) (e_call (a_c (e_v rfl) (a_c (e_op (e_v rfl) e_c rfl) a_n)) rfl (l_law_mixed hx12)) (u_p _)) rfl rfl) ?_
      refine w_assoc ?_
      refine bnd h fun x13 hx13 h => ?_
      refine bnd h fun x14 hx14 h => ?_
      refine w_seq (e1 := [some (.p (eLs D.int p_law_cells)), some (.p (eLs eR1 p_law_debts_here)), some (oL eD s1), some (.p (D.int x2.1)), some (.p (D.int x2.2)), some (.p (D.int x9)), some (.p (D.int x12)), some (.p (eR1 x14)), u8]) (w_set2 (e_w (e_ix (e_b rfl) (e_op (e_v rfl) (e_b1 (e_b rfl) (g_lenL _ _)) (g_mod hx13)) (x_l hx14))) rfl rfl) ?_
      refine w_assoc ?_
      refine bnd h fun x15 hx15 h => ?_
      refine bnd h fun x16 hx16 h => ?_
      refine w_seq (e1 := [some (.p (eLs D.int p_law_cells)), some (.p (eLs eR1 p_law_debts_here)), some (oL eD s1), some (.p (D.int x2.1)), some (.p (D.int x2.2)), some (.p (D.int x9)), some (.p (D.int x12)), some (.p (eR1 x14)), some (.p (D.int ((1 : Int) + x16)))]) (w_set2 (e_op e_c (e_op (e_op (e_v rfl) e_c (g_divR rfl)) (e_w (e_ix (e_l (a_c e_c (a_c e_c (a_c e_c a_n))) rfl (show _ = ((oL D.int [(6 : Int), (20 : Int), (60 : Int)]) : T) from rfl)) (e_op (e_op (e_v rfl) e_c (g_divR rfl)) e_c (g_modR rfl)) (x_o hx15))) (g_mod hx16)) rfl) rfl rfl) ?_
      refine w_assoc ?_
      refine bnd h fun s19 hs19 h => ?_
      refine w_join (P := (fun e => e = [some (.p (eLs D.int p_law_cells)), some (.p (eLs eR1 p_law_debts_here)), some (oL eD s1), some (.p (D.int x2.1)), some (.p (D.int x2.2)), some (.p (D.int x9)), some (.p (D.int x12)), some (.p (eR1 x14)), some (.p (D.int s19))])) ?_ (fun e he => ?_)
      · have h := hs19
        refine w_one ?_
        refine w_if (c_t (e_cmp (e_op (e_op (e_v rfl) e_c (g_divR rfl)) e_c (g_modR rfl)) e_c (u_p _) (u_p _) rfl)) h (fun hb h => ?_) (fun hb h => ?_)
        · refine w_un ?_
          refine w_one ?_
          refine bnd h fun x17 hx17 h => ?_
          refine bnd h fun x18 hx18 h => ?_
          refine w_seq (e1 := [some (.p (eLs D.int p_law_cells)), some (.p (eLs eR1 p_law_debts_here)), some (oL eD s1), some (.p (D.int x2.1)), some (.p (D.int x2.2)), some (.p (D.int x9)), some (.p (D.int x12)), some (.p (eR1 x14)), some (.p (D.int x18.1))]) (w_set2 (e_w (e_ix (e_ix (e_ix (e_b rfl) e_c (x_t 2 rfl)) (e_op (e_op (e_v rfl) e_c (g_divR rfl)) (e_b1 (e_ix (e_b rfl) e_c (x_t 2 rfl)) (g_lenL _ _)) (g_mod hx17)) (x_l hx18)) e_c (x_t 0 rfl))) rfl rfl) ?_
          have h := Option.some.inj h
          subst h
          exact w_nx ⟨rfl, rfl⟩
        · refine w_un ?_
          have h := Option.some.inj h
          subst h
          exact w_nx ⟨rfl, rfl⟩
      · subst he
        refine w_if (c_t (e_cmp (e_op (e_op (e_v rfl) e_c (g_divR rfl)) e_c (g_modR rfl)) e_c (u_p _) (u_p _) rfl)) h (fun hb h => ?_) (fun hb h => ?_)
        · refine bnd h fun x20 hx20 h => ?_
          refine bnd h fun x21 hx21 h => ?_
          refine bnd h fun x22 hx22 h => ?_
          refine w_seq (e1 := [some (.p (eLs D.int p_law_cells)), some (.p (eLs eR1 p_law_debts_here)), some (oL eD x22), some (.p (D.int x2.1)), some (.p (D.int x2.2)), some (.p (D.int x9)), some (.p (D.int x12)), some (.p (eR1 x14)), some (.p (D.int s19))]) (w_appL2 (dd := eD) rfl (e_fz (d := (eTSSII ((cod "late"), x14.1, s19, ((1 : Int) + x21)))) (e_t (a_c (e_s "late") (a_c (e_w (e_ix (e_b rfl) e_c (x_t 0 rfl))) (a_c (e_v rfl) (a_c (e_op e_c (e_op (e_op (e_v rfl) e_c (g_divR rfl)) (e_w (e_ix (e_l (a_c e_c (a_c e_c a_n)) rfl (show _ = ((oL D.int [(3 : Int), (30 : Int)]) : T) from rfl)) (e_op (e_op (e_v rfl) e_c (g_divR rfl)) e_c (g_modR rfl)) (x_o hx20))) (g_mod hx21)) rfl) a_n)))) rfl (show _ = ((.p (eTSSII ((cod "late"), x14.1, s19, ((1 : Int) + x21)))) : T) from rfl)) (u_p _)) rfl hx22 rfl) ?_
          have h := Option.some.inj h
          subst h
          exact w_nx ⟨Or.inl rfl, ⟨_, _, _, _, _, _, rfl⟩⟩
        · refine bnd h fun x23 hx23 h => ?_
          refine bnd h fun x24 hx24 h => ?_
          refine w_seq (e1 := [some (.p (eLs D.int p_law_cells)), some (.p (eLs eR1 p_law_debts_here)), some (oL eD x24), some (.p (D.int x2.1)), some (.p (D.int x2.2)), some (.p (D.int x9)), some (.p (D.int x12)), some (.p (eR1 x14)), some (.p (D.int s19))]) (w_appL2 (dd := eD) rfl (e_fz (d := (eTSSI (x23, x14.1, s19))) (e_t (a_c (e_w (e_ix (e_l (a_c (e_s "early") (a_c (e_s "early") (a_c (e_s "quit") a_n))) rfl (show _ = ((oL eS [(cod "early"), (cod "early"), (cod "quit")]) : T) from rfl)) (e_op (e_op (e_v rfl) e_c (g_divR rfl)) e_c (g_modR rfl)) (x_o hx23))) (a_c (e_w (e_ix (e_b rfl) e_c (x_t 0 rfl))) (a_c (e_v rfl) a_n))) rfl (show _ = ((.p (eTSSI (x23, x14.1, s19))) : T) from rfl)) (u_p _)) rfl hx24 rfl) ?_
          have h := Option.some.inj h
          subst h
          exact w_nx ⟨Or.inl rfl, ⟨_, _, _, _, _, _, rfl⟩⟩
    · refine w_snx ?_
      have h := Option.some.inj h
      subst h
      exact w_nx ⟨Or.inl rfl, ⟨_, _, _, _, _, _, rfl⟩⟩
  · obtain ⟨u3, u4, u5, u6, u7, u8, rfl⟩ := he
    refine w_one ?_
    have h := Option.some.inj h
    subst h
    exact w_sret (e_m rfl) (Or.inl rfl)
def n_law_amounts (p_law_debts_here : List R1) : Option (List (Nm × Int × Int × Nm)) :=
  (fold (fun (x2 : R1) (s1 : (List (Nm × Int × Int × Nm))) =>
  (compT (fun (x8 : TII) => (x2.1, x8.1, x8.2, (cod ""))) x2.2.2).bind fun c9 =>
  (extL s1 c9).bind fun x10 =>
  some x10) p_law_debts_here ([] : List (Nm × Int × Int × Nm))).bind fun s11 =>
  some s11
theorem l_law_amounts {p_law_debts_here : List R1} {r : List (Nm × Int × Int × Nm)} (h : n_law_amounts p_law_debts_here = some r) : phi_law_amounts [(eLs eR1 p_law_debts_here)] = some (oE (fun v => (T.lst [(.p (eS v.1)), (.p (D.int v.2.1)), (.p (D.int v.2.2.1)), (.p (eS v.2.2.2))])) r) := by
  unfold n_law_amounts at h
  refine runF_wp rfl ?_
  show Wp (F_law_amounts [some (.p (eLs eR1 p_law_debts_here)), none, none, none, none, none, none]) _
  unfold F_law_amounts
  refine w_seq (e1 := [some (.p (eLs eR1 p_law_debts_here)), some (oE (fun v => (T.lst [(.p (eS v.1)), (.p (D.int v.2.1)), (.p (D.int v.2.2.1)), (.p (eS v.2.2.2))])) ([] : List (Nm × Int × Int × Nm))), none, none, none, none, none]) (w_set2 (e_l a_n rfl rfl) rfl rfl) ?_
  refine bnd h fun s11 hs11 h => ?_
  refine w_for (P := (fun e => ∃ u3, ∃ u4, ∃ u5, ∃ u6, ∃ u7, e = [some (.p (eLs eR1 p_law_debts_here)), some (oE (fun v => (T.lst [(.p (eS v.1)), (.p (D.int v.2.1)), (.p (D.int v.2.2.1)), (.p (eS v.2.2.2))])) s11), u3, u4, u5, u6, u7])) (i_l (e_v rfl)) (loop_fold (dd := eR1) (fun (s1 : (List (Nm × Int × Int × Nm))) e => ∃ u3, ∃ u4, ∃ u5, ∃ u6, ∃ u7, e = [some (.p (eLs eR1 p_law_debts_here)), some (oE (fun v => (T.lst [(.p (eS v.1)), (.p (D.int v.2.1)), (.p (D.int v.2.2.1)), (.p (eS v.2.2.2))])) s1), u3, u4, u5, u6, u7]) ?_ _ _ _ _ ⟨_, _, _, _, _, rfl⟩ hs11) (fun e he => ?_)
  · intro x2 s1 sN env hR h
    obtain ⟨u3, u4, u5, u6, u7, rfl⟩ := hR
    refine ⟨_, rfl, ?_⟩
    unfold B_law_amounts_1
    refine w_one ?_
    refine bnd h fun c9 hc9 h => ?_
    refine bnd h fun x10 hx10 h => ?_
    refine w_seq (e1 := [some (.p (eLs eR1 p_law_debts_here)), some (oE (fun v => (T.lst [(.p (eS v.1)), (.p (D.int v.2.1)), (.p (D.int v.2.2.1)), (.p (eS v.2.2.2))])) x10), some (.p (eS x2.1)), some (.p (eS x2.2.1)), some (.p (eLs eTII x2.2.2)), none, none]) (w_extE (E := (fun v => (T.lst [(.p (eS v.1)), (.p (D.int v.2.1)), (.p (D.int v.2.2.1)), (.p (eS v.2.2.2))]))) rfl (e_comp (w := [some (.p (eLs eR1 p_law_debts_here)), some (oE (fun v => (T.lst [(.p (eS v.1)), (.p (D.int v.2.1)), (.p (D.int v.2.2.1)), (.p (eS v.2.2.2))])) s1), some (.p (eS x2.1)), some (.p (eS x2.2.1)), some (.p (eLs eTII x2.2.2)), none, none]) (dd := eTII) (E := (fun v => (T.lst [(.p (eS v.1)), (.p (D.int v.2.1)), (.p (D.int v.2.2.1)), (.p (eS v.2.2.2))]))) (i_l (e_v rfl)) rfl ((compT_F _ _).symm.trans hc9) (fun x8 => ⟨_, rfl, _, rfl, (fun hp => nomatch hp), fun y hp h => by
    have h := Option.some.inj h; subst h
    exact ⟨_, (e_l (a_c (e_v rfl) (a_c (e_v rfl) (a_c (e_v rfl) (a_c (e_s "") a_n)))) rfl (show _ = ((T.lst [(.p (eS x2.1)), (.p (D.int x8.1)), (.p (D.int x8.2)), (.p (eS (cod "")))]) : T) from rfl)), rfl⟩⟩)) rfl hx10 rfl) ?_
    have h := Option.some.inj h
    subst h
    exact w_nx ⟨Or.inl rfl, ⟨_, _, _, _, _, rfl⟩⟩
  · obtain ⟨u3, u4, u5, u6, u7, rfl⟩ := he
    refine w_one ?_
    have h := Option.some.inj h
    subst h
    exact w_sret (e_m rfl) (Or.inl rfl)
def n_law_event (p_law_amounts_here : List (Nm × Int × Int × Nm)) (p_law_event_here : D) : Option ((List (Nm × Int × Int × Nm))) :=
  (mapO (fun (x1 : Nm × Int × Int × Nm) =>
  (ixD p_law_event_here (1 : Int)).bind fun x3 =>
  (eqQ (eS x1.1) x3).bind fun x4 =>
  (if ((!x4) || (!decide (x1.2.2.2 = (cod "")))) = true then
  (some x1)
  else ((ixD p_law_event_here (0 : Int)).bind fun x5 =>
  (eqQ x5 (eS (cod "quit"))).bind fun x6 =>
  (if x6 = true then
  ((ixD p_law_event_here (2 : Int)).bind fun x7 =>
  (asIntD x7).bind fun x8 =>
  some (x1.1, x8, x1.2.2.1, (cod "lost")))
  else ((ixD p_law_event_here (0 : Int)).bind fun x9 =>
  (eqQ x9 (eS (cod "early"))).bind fun x10 =>
  (if x10 = true then
  ((ixD p_law_event_here (2 : Int)).bind fun x11 =>
  (asIntD x11).bind fun x12 =>
  some (x1.1, x12, x1.2.2.1, x1.2.2.2))
  else ((ixD p_law_event_here (2 : Int)).bind fun x13 =>
  (eqQ (D.int x1.2.1) x13).bind fun x14 =>
  (if x14 = true then
  ((ixD p_law_event_here (2 : Int)).bind fun x15 =>
  (ixD p_law_event_here (3 : Int)).bind fun x16 =>
  (asIntD x15).bind fun x17 =>
  (asIntD x16).bind fun x18 =>
  some (x1.1, (x17 + x18), x1.2.2.1, x1.2.2.2))
  else (some x1))))))))) p_law_amounts_here).bind fun s2 =>
  some s2
theorem l_law_event {p_law_amounts_here : List (Nm × Int × Int × Nm)} {p_law_event_here : D} {r : (List (Nm × Int × Int × Nm))} (h : n_law_event p_law_amounts_here p_law_event_here = some r) : phi_law_event (oE (fun v => (T.lst [(.p (eS v.1)), (.p (D.int v.2.1)), (.p (D.int v.2.2.1)), (.p (eS v.2.2.2))])) p_law_amounts_here) [p_law_event_here] = some ((.p .non), (oE (fun v => (T.lst [(.p (eS v.1)), (.p (D.int v.2.1)), (.p (D.int v.2.2.1)), (.p (eS v.2.2.2))])) r)) := by
  unfold n_law_event at h
  refine runM_wp rfl ?_
  show Wp (F_law_event [some (oE (fun v => (T.lst [(.p (eS v.1)), (.p (D.int v.2.1)), (.p (D.int v.2.2.1)), (.p (eS v.2.2.2))])) p_law_amounts_here), some (.p p_law_event_here), none]) _
  unfold F_law_event
  refine w_one ?_
  refine bnd h fun s2 hs2 h => ?_
  refine w_forPC (E := (fun v => (T.lst [(.p (eS v.1)), (.p (D.int v.2.1)), (.p (D.int v.2.2.1)), (.p (eS v.2.2.2))]))) (w := [none, some (.p p_law_event_here), none]) (envB := fun x1 => [none, some (.p p_law_event_here), some (T.lst [(.p (eS x1.1)), (.p (D.int x1.2.1)), (.p (D.int x1.2.2.1)), (.p (eS x1.2.2.2))])]) (e' := [some (oE (fun v => (T.lst [(.p (eS v.1)), (.p (D.int v.2.1)), (.p (D.int v.2.2.1)), (.p (eS v.2.2.2))])) s2), some (.p p_law_event_here), none]) rfl rfl (of_decide_eq_true rfl) (fun _ => rfl) (fun _ => rfl) hs2 rfl (fun x1 y h => ?_) ?_
  · clear hs2
    unfold B_law_event_1
    refine bnd h fun x3 hx3 h => ?_
    refine bnd h fun x4 hx4 h => ?_
    refine w_if (c_or (c_t (e_cmp (e_ix (u := (.p (eS x1.1))) (e_b rfl) e_c rfl) (e_ix (e_b rfl) e_c (x_d hx3)) (u_p _) (u_p _) (g_ne hx4))) (c_t (e_cmp (e_ix (u := (.p (eS x1.2.2.2))) (e_b rfl) e_c rfl) (e_s "") (u_p _) (u_p _) (g_ne eqQ_g)))) h (fun hb h => ?_) (fun hb h => ?_)
    · have h := Option.some.inj h
      subst h
      exact w_sct ⟨Or.inr rfl, rfl, rfl⟩
    · refine w_snx ?_
      refine w_one ?_
      refine bnd h fun x5 hx5 h => ?_
      refine bnd h fun x6 hx6 h => ?_
      refine w_if (c_t (e_cmp (e_ix (e_b rfl) e_c (x_d hx5)) (e_s "quit") (u_p _) (u_p _) hx6)) h (fun hb h => ?_) (fun hb h => ?_)
      · refine w_assoc ?_
        refine bnd h fun x7 hx7 h => ?_
        refine bnd h fun x8 hx8 h => ?_
        refine w_seq (e1 := [none, some (.p p_law_event_here), some (T.lst [(.p (eS x1.1)), (.p (D.int x8)), (.p (D.int x1.2.2.1)), (.p (eS x1.2.2.2))])]) (w_putY (k := 1) (e' := [none, some (.p p_law_event_here), some (T.lst [(.p (eS x1.1)), (.p (D.int x8)), (.p (D.int x1.2.2.1)), (.p (eS x1.2.2.2))])]) (e_asI (e_w (e_ix (e_b rfl) e_c (x_d hx7))) hx8) rfl e_c rfl rfl rfl) ?_
        refine w_seq (e1 := [none, some (.p p_law_event_here), some (T.lst [(.p (eS x1.1)), (.p (D.int x8)), (.p (D.int x1.2.2.1)), (.p (eS (cod "lost")))])]) (w_putY (k := 3) (e' := [none, some (.p p_law_event_here), some (T.lst [(.p (eS x1.1)), (.p (D.int x8)), (.p (D.int x1.2.2.1)), (.p (eS (cod "lost")))])]) (e_s "lost") rfl e_c rfl rfl rfl) ?_
        have h := Option.some.inj h
        subst h
        exact w_nx ⟨Or.inl rfl, rfl, rfl⟩
      · refine bnd h fun x9 hx9 h => ?_
        refine bnd h fun x10 hx10 h => ?_
        refine w_if (c_t (e_cmp (e_ix (e_b rfl) e_c (x_d hx9)) (e_s "early") (u_p _) (u_p _) hx10)) h (fun hb h => ?_) (fun hb h => ?_)
        · refine bnd h fun x11 hx11 h => ?_
          refine bnd h fun x12 hx12 h => ?_
          refine w_seq (e1 := [none, some (.p p_law_event_here), some (T.lst [(.p (eS x1.1)), (.p (D.int x12)), (.p (D.int x1.2.2.1)), (.p (eS x1.2.2.2))])]) (w_putY (k := 1) (e' := [none, some (.p p_law_event_here), some (T.lst [(.p (eS x1.1)), (.p (D.int x12)), (.p (D.int x1.2.2.1)), (.p (eS x1.2.2.2))])]) (e_asI (e_w (e_ix (e_b rfl) e_c (x_d hx11))) hx12) rfl e_c rfl rfl rfl) ?_
          have h := Option.some.inj h
          subst h
          exact w_nx ⟨Or.inl rfl, rfl, rfl⟩
        · refine bnd h fun x13 hx13 h => ?_
          refine bnd h fun x14 hx14 h => ?_
          refine w_if (c_t (e_cmp (e_ix (u := (.p (D.int x1.2.1))) (e_b rfl) e_c rfl) (e_ix (e_b rfl) e_c (x_d hx13)) (u_p _) (u_p _) hx14)) h (fun hb h => ?_) (fun hb h => ?_)
          · refine bnd h fun x15 hx15 h => ?_
            refine bnd h fun x16 hx16 h => ?_
            refine bnd h fun x17 hx17 h => ?_
            refine bnd h fun x18 hx18 h => ?_
            refine w_seq (e1 := [none, some (.p p_law_event_here), some (T.lst [(.p (eS x1.1)), (.p (D.int (x17 + x18))), (.p (D.int x1.2.2.1)), (.p (eS x1.2.2.2))])]) (w_putY (k := 1) (e' := [none, some (.p p_law_event_here), some (T.lst [(.p (eS x1.1)), (.p (D.int (x17 + x18))), (.p (D.int x1.2.2.1)), (.p (eS x1.2.2.2))])]) (e_op (e_asI (e_w (e_ix (e_b rfl) e_c (x_d hx15))) hx17) (e_asI (e_w (e_ix (e_b rfl) e_c (x_d hx16))) hx18) rfl) rfl e_c rfl rfl rfl) ?_
            have h := Option.some.inj h
            subst h
            exact w_nx ⟨Or.inl rfl, rfl, rfl⟩
          · refine w_snx ?_
            have h := Option.some.inj h
            subst h
            exact w_nx ⟨Or.inl rfl, rfl, rfl⟩
  · have h := Option.some.inj h
    subst h
    exact w_nx ⟨Or.inr ⟨rfl, rfl⟩, rfl⟩
def n_law_walked (p_law_amounts_here : List (Nm × Int × Int × Nm)) (p_law_events_here : List D) (p_law_many : Int) : Option ((List (Nm × Int × Int × Nm))) :=
  (rng2  (1 : Int) (p_law_many + (1 : Int))).bind fun x1 =>
  (fold (fun (x3 : Int) (s2 : (List (Nm × Int × Int × Nm))) =>
  (fold (fun (x7 : D) (s6 : (List (Nm × Int × Int × Nm))) =>
  (ixD x7 (2 : Int)).bind fun x9 =>
  (eqQ x9 (D.int x3)).bind fun x10 =>
  (if x10 = true then
  ((n_law_event s6 x7).bind fun x11 =>
  some x11)
  else (some s6))) p_law_events_here s2).bind fun s12 =>
  (mapO (fun (x13 : Nm × Int × Int × Nm) =>
  (if ((decide (x13.2.1 = x3)) && (decide (x13.2.2.2 = (cod "")))) = true then
  (some (x13.1, x13.2.1, x13.2.2.1, (cod "paid")))
  else (some x13))) s12).bind fun s14 =>
  some s14) x1 p_law_amounts_here).bind fun s15 =>
  some s15
theorem l_law_walked {p_law_amounts_here : List (Nm × Int × Int × Nm)} {p_law_events_here : List D} {p_law_many : Int} {r : (List (Nm × Int × Int × Nm))} (h : n_law_walked p_law_amounts_here p_law_events_here p_law_many = some r) : phi_law_walked (oE (fun v => (T.lst [(.p (eS v.1)), (.p (D.int v.2.1)), (.p (D.int v.2.2.1)), (.p (eS v.2.2.2))])) p_law_amounts_here) [(eLs eD p_law_events_here), (D.int p_law_many)] = some ((.p .non), (oE (fun v => (T.lst [(.p (eS v.1)), (.p (D.int v.2.1)), (.p (D.int v.2.2.1)), (.p (eS v.2.2.2))])) r)) := by
  unfold n_law_walked at h
  refine runM_wp rfl ?_
  show Wp (F_law_walked [some (oE (fun v => (T.lst [(.p (eS v.1)), (.p (D.int v.2.1)), (.p (D.int v.2.2.1)), (.p (eS v.2.2.2))])) p_law_amounts_here), some (.p (eLs eD p_law_events_here)), some (.p (D.int p_law_many)), none, none, none]) _
  unfold F_law_walked
  refine w_one ?_
  refine bnd h fun x1 hx1 h => ?_
  refine bnd h fun s15 hs15 h => ?_
  refine w_for (P := (fun e => ∃ u4, ∃ u5, e = [some (oE (fun v => (T.lst [(.p (eS v.1)), (.p (D.int v.2.1)), (.p (D.int v.2.2.1)), (.p (eS v.2.2.2))])) s15), some (.p (eLs eD p_law_events_here)), some (.p (D.int p_law_many)), u4, u5, none])) (i_r2 (a_c e_c (a_c (e_op (e_v rfl) e_c rfl) a_n)) hx1) (loop_fold (dd := D.int) (fun (s2 : (List (Nm × Int × Int × Nm))) e => ∃ u4, ∃ u5, e = [some (oE (fun v => (T.lst [(.p (eS v.1)), (.p (D.int v.2.1)), (.p (D.int v.2.2.1)), (.p (eS v.2.2.2))])) s2), some (.p (eLs eD p_law_events_here)), some (.p (D.int p_law_many)), u4, u5, none]) ?_ _ _ _ _ ⟨_, _, rfl⟩ hs15) (fun e he => ?_)
  · intro x3 s2 sN env hR h
    obtain ⟨u4, u5, rfl⟩ := hR
    refine ⟨_, rfl, ?_⟩
    unfold B_law_walked_3
    refine bnd h fun s12 hs12 h => ?_
    refine w_for (P := (fun e => ∃ u8, e = [some (oE (fun v => (T.lst [(.p (eS v.1)), (.p (D.int v.2.1)), (.p (D.int v.2.2.1)), (.p (eS v.2.2.2))])) s12), some (.p (eLs eD p_law_events_here)), some (.p (D.int p_law_many)), some (.p (D.int x3)), u8, none])) (i_l (e_v rfl)) (loop_fold (dd := eD) (fun (s6 : (List (Nm × Int × Int × Nm))) e => ∃ u8, e = [some (oE (fun v => (T.lst [(.p (eS v.1)), (.p (D.int v.2.1)), (.p (D.int v.2.2.1)), (.p (eS v.2.2.2))])) s6), some (.p (eLs eD p_law_events_here)), some (.p (D.int p_law_many)), some (.p (D.int x3)), u8, none]) ?_ _ _ _ _ ⟨_, rfl⟩ hs12) (fun e he => ?_)
    · intro x7 s6 sN env hR h
      obtain ⟨u8, rfl⟩ := hR
      refine ⟨_, rfl, ?_⟩
      unfold B_law_walked_1
      refine w_one ?_
      refine bnd h fun x9 hx9 h => ?_
      refine bnd h fun x10 hx10 h => ?_
      refine w_if (c_t (e_cmp (e_ix (e_b rfl) e_c (x_d hx9)) (e_b rfl) (u_p _) (u_p _) hx10)) h (fun hb h => ?_) (fun hb h => ?_)
      · refine bnd h fun x11 hx11 h => ?_
        refine w_seq (e1 := [some (oE (fun v => (T.lst [(.p (eS v.1)), (.p (D.int v.2.1)), (.p (D.int v.2.2.1)), (.p (eS v.2.2.2))])) x11), some (.p (eLs eD p_law_events_here)), some (.p (D.int p_law_many)), some (.p (D.int x3)), some (.p x7), none]) (w_drop (e_callM (t := (oE (fun v => (T.lst [(.p (eS v.1)), (.p (D.int v.2.1)), (.p (D.int v.2.2.1)), (.p (eS v.2.2.2))])) s6)) (t2 := (oE (fun v => (T.lst [(.p (eS v.1)), (.p (D.int v.2.1)), (.p (D.int v.2.2.1)), (.p (eS v.2.2.2))])) x11)) (e' := [some (oE (fun v => (T.lst [(.p (eS v.1)), (.p (D.int v.2.1)), (.p (D.int v.2.2.1)), (.p (eS v.2.2.2))])) x11), some (.p (eLs eD p_law_events_here)), some (.p (D.int p_law_many)), some (.p (D.int x3)), some (.p x7), none]) (pl_nm rfl) (a_c (e_v rfl) a_n) rfl (by kernel_rfl) (l_law_event hx11) (by kernel_rfl))) ?_
        have h := Option.some.inj h
        subst h
        exact w_nx ⟨Or.inl rfl, ⟨_, rfl⟩⟩
      · refine w_snx ?_
        have h := Option.some.inj h
        subst h
        exact w_nx ⟨Or.inl rfl, ⟨_, rfl⟩⟩
    · obtain ⟨u8, rfl⟩ := he
      refine w_one ?_
      refine bnd h fun s14 hs14 h => ?_
      refine w_forP (E := (fun v => (T.lst [(.p (eS v.1)), (.p (D.int v.2.1)), (.p (D.int v.2.2.1)), (.p (eS v.2.2.2))]))) (w := [none, some (.p (eLs eD p_law_events_here)), some (.p (D.int p_law_many)), some (.p (D.int x3)), u8, none]) (envB := fun x13 => [none, some (.p (eLs eD p_law_events_here)), some (.p (D.int p_law_many)), some (.p (D.int x3)), u8, some (T.lst [(.p (eS x13.1)), (.p (D.int x13.2.1)), (.p (D.int x13.2.2.1)), (.p (eS x13.2.2.2))])]) (e' := [some (oE (fun v => (T.lst [(.p (eS v.1)), (.p (D.int v.2.1)), (.p (D.int v.2.2.1)), (.p (eS v.2.2.2))])) s14), some (.p (eLs eD p_law_events_here)), some (.p (D.int p_law_many)), some (.p (D.int x3)), u8, none]) rfl rfl (of_decide_eq_true rfl) (fun _ => rfl) (fun _ => rfl) hs14 rfl (fun x13 y h => ?_) ?_
      · clear hs14
        unfold B_law_walked_2
        refine w_one ?_
        refine w_if (c_and (c_t (e_cmp (e_ix (u := (.p (D.int x13.2.1))) (e_b rfl) e_c rfl) (e_b rfl) (u_p _) (u_p _) eqQ_i)) (c_t (e_cmp (e_ix (u := (.p (eS x13.2.2.2))) (e_b rfl) e_c rfl) (e_s "") (u_p _) (u_p _) eqQ_g))) h (fun hb h => ?_) (fun hb h => ?_)
        · refine w_seq (e1 := [none, some (.p (eLs eD p_law_events_here)), some (.p (D.int p_law_many)), some (.p (D.int x3)), u8, some (T.lst [(.p (eS x13.1)), (.p (D.int x13.2.1)), (.p (D.int x13.2.2.1)), (.p (eS (cod "paid")))])]) (w_putY (k := 3) (e' := [none, some (.p (eLs eD p_law_events_here)), some (.p (D.int p_law_many)), some (.p (D.int x3)), u8, some (T.lst [(.p (eS x13.1)), (.p (D.int x13.2.1)), (.p (D.int x13.2.2.1)), (.p (eS (cod "paid")))])]) (e_s "paid") rfl e_c rfl rfl rfl) ?_
          have h := Option.some.inj h
          subst h
          exact w_nx ⟨rfl, rfl, rfl⟩
        · refine w_snx ?_
          have h := Option.some.inj h
          subst h
          exact w_nx ⟨rfl, rfl, rfl⟩
      · have h := Option.some.inj h
        subst h
        exact w_nx ⟨Or.inl rfl, ⟨_, _, rfl⟩⟩
  · obtain ⟨u4, u5, rfl⟩ := he
    have h := Option.some.inj h
    subst h
    exact w_nx ⟨Or.inr ⟨rfl, rfl⟩, rfl⟩
def n_law_sums (p_law_amounts_here : List (Nm × Int × Int × Nm)) : Option (List (TSIS × Int)) :=
  (fold (fun (x2 : Nm × Int × Int × Nm) (s1 : (List (TSIS × Int))) =>
  ((if (decide (x2.2.2.2 = (cod ""))) = true then
  (some (0 : Int))
  else (some x2.2.1)) : Option Int).bind fun s7 =>
  (putK s1 (x2.2.2.2, s7, x2.1) (((lkN s1 (x2.2.2.2, s7, x2.1)).getD (0 : Int)) + x2.2.2.1)).bind fun x8 =>
  some x8) p_law_amounts_here ([] : List (TSIS × Int))).bind fun s9 =>
  some s9
theorem l_law_sums {p_law_amounts_here : List (Nm × Int × Int × Nm)} {r : List (TSIS × Int)} (h : n_law_sums p_law_amounts_here = some r) : phi_law_sums [(eLs (fun v => (D.lst [(eS v.1), (D.int v.2.1), (D.int v.2.2.1), (eS v.2.2.2)])) p_law_amounts_here)] = some (oG kSIS D.int r) := by
  unfold n_law_sums at h
  refine runF_wp rfl ?_
  show Wp (F_law_sums [some (.p (eLs (fun v => (D.lst [(eS v.1), (D.int v.2.1), (D.int v.2.2.1), (eS v.2.2.2)])) p_law_amounts_here)), none, none, none, none, none]) _
  unfold F_law_sums
  refine w_seq (e1 := [some (.p (eLs (fun v => (D.lst [(eS v.1), (D.int v.2.1), (D.int v.2.2.1), (eS v.2.2.2)])) p_law_amounts_here)), some (oG kSIS D.int ([] : List (TSIS × Int))), none, none, none, none]) (w_set2 (show _ = some ((oG kSIS D.int ([] : List (TSIS × Int))), _) from rfl) rfl rfl) ?_
  refine bnd h fun s9 hs9 h => ?_
  refine w_for (P := (fun e => ∃ u3, ∃ u4, ∃ u5, ∃ u6, e = [some (.p (eLs (fun v => (D.lst [(eS v.1), (D.int v.2.1), (D.int v.2.2.1), (eS v.2.2.2)])) p_law_amounts_here)), some (oG kSIS D.int s9), u3, u4, u5, u6])) (i_l (e_v rfl)) (loop_fold (dd := (fun v => (D.lst [(eS v.1), (D.int v.2.1), (D.int v.2.2.1), (eS v.2.2.2)]))) (fun (s1 : (List (TSIS × Int))) e => ∃ u3, ∃ u4, ∃ u5, ∃ u6, e = [some (.p (eLs (fun v => (D.lst [(eS v.1), (D.int v.2.1), (D.int v.2.2.1), (eS v.2.2.2)])) p_law_amounts_here)), some (oG kSIS D.int s1), u3, u4, u5, u6]) ?_ _ _ _ _ ⟨_, _, _, _, rfl⟩ hs9) (fun e he => ?_)
  · intro x2 s1 sN env hR h
    obtain ⟨u3, u4, u5, u6, rfl⟩ := hR
    refine ⟨_, rfl, ?_⟩
    unfold B_law_sums_1
    refine bnd h fun s7 hs7 h => ?_
    refine w_join (P := (fun e => e = [some (.p (eLs (fun v => (D.lst [(eS v.1), (D.int v.2.1), (D.int v.2.2.1), (eS v.2.2.2)])) p_law_amounts_here)), some (oG kSIS D.int s1), some (.p (eS x2.1)), some (.p (D.int s7)), some (.p (D.int x2.2.2.1)), some (.p (eS x2.2.2.2))])) ?_ (fun e he => ?_)
    · have h := hs7
      refine w_one ?_
      refine w_if (c_t (e_cmp (e_b rfl) (e_s "") (u_p _) (u_p _) eqQ_g)) h (fun hb h => ?_) (fun hb h => ?_)
      · refine w_un ?_
        refine w_one ?_
        refine w_seq (e1 := [some (.p (eLs (fun v => (D.lst [(eS v.1), (D.int v.2.1), (D.int v.2.2.1), (eS v.2.2.2)])) p_law_amounts_here)), some (oG kSIS D.int s1), some (.p (eS x2.1)), some (.p (D.int (0 : Int))), some (.p (D.int x2.2.2.1)), some (.p (eS x2.2.2.2))]) (w_set2 e_c rfl rfl) ?_
        have h := Option.some.inj h
        subst h
        exact w_nx ⟨rfl, rfl⟩
      · refine w_un ?_
        have h := Option.some.inj h
        subst h
        exact w_nx ⟨rfl, rfl⟩
    · subst he
      refine w_one ?_
      refine bnd h fun x8 hx8 h => ?_
      refine w_seq (e1 := [some (.p (eLs (fun v => (D.lst [(eS v.1), (D.int v.2.1), (D.int v.2.2.1), (eS v.2.2.2)])) p_law_amounts_here)), some (oG kSIS D.int x8), some (.p (eS x2.1)), some (.p (D.int s7)), some (.p (D.int x2.2.2.1)), some (.p (eS x2.2.2.2))]) (w_putT (dd := D.int) (e' := [some (.p (eLs (fun v => (D.lst [(eS v.1), (D.int v.2.1), (D.int v.2.2.1), (eS v.2.2.2)])) p_law_amounts_here)), some (oG kSIS D.int x8), some (.p (eS x2.1)), some (.p (D.int s7)), some (.p (D.int x2.2.2.1)), some (.p (eS x2.2.2.2))]) kSIS_inj (e_op (e_dgetT (dd := D.int) kSIS_inj (e_b rfl) (dit_o _) (e_t (a_c (e_v rfl) (a_c (e_v rfl) (a_c (e_v rfl) a_n))) rfl (show _ = ((.p (eTSIS (x2.2.2.2, s7, x2.1))) : T) from rfl)) (keySIS _) e_c) (e_v rfl) rfl) (pl_nm rfl) (e_t (a_c (e_v rfl) (a_c (e_v rfl) (a_c (e_v rfl) a_n))) rfl (show _ = ((.p (eTSIS (x2.2.2.2, s7, x2.1))) : T) from rfl)) (keySIS _) (by kernel_rfl) hx8 (by kernel_rfl)) ?_
      have h := Option.some.inj h
      subst h
      exact w_nx ⟨Or.inl rfl, ⟨_, _, _, _, rfl⟩⟩
  · obtain ⟨u3, u4, u5, u6, rfl⟩ := he
    refine w_one ?_
    have h := Option.some.inj h
    subst h
    exact w_sret (e_m rfl) (Or.inl rfl)
def n_law_pairs (p_law_sums_here : List (TSIS × Int)) (p_law_fate : Nm) (p_law_day : Int) (p_law_debts_here : List R1) : Option (List TSI) :=
  (fold (fun (x2 : R1) (s1 : (List TSI)) =>
  (if ((lkN p_law_sums_here (p_law_fate, p_law_day, x2.1)).isSome) = true then
  ((lkN p_law_sums_here (p_law_fate, p_law_day, x2.1)).bind fun x6 =>
  (push s1 (x2.1, x6)).bind fun x7 =>
  some x7)
  else (some s1))) p_law_debts_here ([] : List TSI)).bind fun s8 =>
  some s8
theorem l_law_pairs {p_law_sums_here : List (TSIS × Int)} {p_law_fate : Nm} {p_law_day : Int} {p_law_debts_here : List R1} {r : List TSI} (h : n_law_pairs p_law_sums_here p_law_fate p_law_day p_law_debts_here = some r) : phi_law_pairs [(eG kSIS D.int p_law_sums_here), (eS p_law_fate), (D.int p_law_day), (eLs eR1 p_law_debts_here)] = some (oL eTSI r) := by
  unfold n_law_pairs at h
  refine runF_wp rfl ?_
  show Wp (F_law_pairs [some (.p (eG kSIS D.int p_law_sums_here)), some (.p (eS p_law_fate)), some (.p (D.int p_law_day)), some (.p (eLs eR1 p_law_debts_here)), none, none, none, none]) _
  unfold F_law_pairs
  refine w_seq (e1 := [some (.p (eG kSIS D.int p_law_sums_here)), some (.p (eS p_law_fate)), some (.p (D.int p_law_day)), some (.p (eLs eR1 p_law_debts_here)), some (oL eTSI ([] : List TSI)), none, none, none]) (w_set2 (e_l a_n rfl rfl) rfl rfl) ?_
  refine bnd h fun s8 hs8 h => ?_
  refine w_for (P := (fun e => ∃ u3, ∃ u4, ∃ u5, e = [some (.p (eG kSIS D.int p_law_sums_here)), some (.p (eS p_law_fate)), some (.p (D.int p_law_day)), some (.p (eLs eR1 p_law_debts_here)), some (oL eTSI s8), u3, u4, u5])) (i_l (e_v rfl)) (loop_fold (dd := eR1) (fun (s1 : (List TSI)) e => ∃ u3, ∃ u4, ∃ u5, e = [some (.p (eG kSIS D.int p_law_sums_here)), some (.p (eS p_law_fate)), some (.p (D.int p_law_day)), some (.p (eLs eR1 p_law_debts_here)), some (oL eTSI s1), u3, u4, u5]) ?_ _ _ _ _ ⟨_, _, _, rfl⟩ hs8) (fun e he => ?_)
  · intro x2 s1 sN env hR h
    obtain ⟨u3, u4, u5, rfl⟩ := hR
    refine ⟨_, rfl, ?_⟩
    unfold B_law_pairs_1
    refine w_one ?_
    refine w_if (c_t (e_dinT kSIS_inj (e_t (a_c (e_v rfl) (a_c (e_v rfl) (a_c (e_v rfl) a_n))) rfl (show _ = ((.p (eTSIS (p_law_fate, p_law_day, x2.1))) : T) from rfl)) (e_b rfl) rfl (keySIS _))) h (fun hb h => ?_) (fun hb h => ?_)
    · refine bnd h fun x6 hx6 h => ?_
      refine bnd h fun x7 hx7 h => ?_
      refine w_seq (e1 := [some (.p (eG kSIS D.int p_law_sums_here)), some (.p (eS p_law_fate)), some (.p (D.int p_law_day)), some (.p (eLs eR1 p_law_debts_here)), some (oL eTSI x7), some (.p (eS x2.1)), some (.p (eS x2.2.1)), some (.p (eLs eTII x2.2.2))]) (w_appL2 (dd := eTSI) rfl (e_fz (d := (eTSI (x2.1, x6))) (e_t (a_c (e_v rfl) (a_c (e_dixT kSIS_inj (e_b rfl) rfl (e_t (a_c (e_v rfl) (a_c (e_v rfl) (a_c (e_v rfl) a_n))) rfl (show _ = ((.p (eTSIS (p_law_fate, p_law_day, x2.1))) : T) from rfl)) (keySIS _) hx6) a_n)) rfl (show _ = ((.p (eTSI (x2.1, x6))) : T) from rfl)) (u_p _)) rfl hx7 rfl) ?_
      have h := Option.some.inj h
      subst h
      exact w_nx ⟨Or.inl rfl, ⟨_, _, _, rfl⟩⟩
    · refine w_snx ?_
      have h := Option.some.inj h
      subst h
      exact w_nx ⟨Or.inl rfl, ⟨_, _, _, rfl⟩⟩
  · obtain ⟨u3, u4, u5, rfl⟩ := he
    refine w_one ?_
    have h := Option.some.inj h
    subst h
    exact w_sret (e_m rfl) (Or.inl rfl)
def n_law_total (p_law_pairs_here : List TSI) (p_law_name : Nm) : Option Int :=
  (compTF (fun (x1 : TSI) => decide (x1.1 = p_law_name)) (fun (x1 : TSI) => x1.2) p_law_pairs_here).bind fun c2 =>
  some (c2).sum
theorem l_law_total {p_law_pairs_here : List TSI} {p_law_name : Nm} {r : Int} (h : n_law_total p_law_pairs_here p_law_name = some r) : phi_law_total [(eLs eTSI p_law_pairs_here), (eS p_law_name)] = some (.p (D.int r)) := by
  unfold n_law_total at h
  refine runF_wp rfl ?_
  show Wp (F_law_total [some (.p (eLs eTSI p_law_pairs_here)), some (.p (eS p_law_name)), none, none]) _
  unfold F_law_total
  refine w_one ?_
  refine bnd h fun c2 hc2 h => ?_
  have h := Option.some.inj h
  subst h
  exact w_sret (e_b1 (e_compP (w := [some (.p (eLs eTSI p_law_pairs_here)), some (.p (eS p_law_name)), none, none]) (dd := eTSI) (E := D.int) (i_l (e_v rfl)) rfl ((compTF_F _ _ _).symm.trans hc2) (fun x1 => ⟨_, rfl, _, (c_t (e_cmp (e_b rfl) (e_b rfl) (u_p _) (u_p _) eqQ_g)), (fun hp => rfl), fun y hp h => by
    have h := Option.some.inj h; subst h
    exact ⟨_, (e_v rfl), rfl⟩⟩)) (g_sumO _)) (Or.inl rfl)
def n_law_each (p_law_found : R3) (p_law_debts_here : List R1) : Option Bool :=
  (fold (fun (x2 : R2) (s1 : (List TSI)) =>
  (catL s1 x2.1).bind fun x5 =>
  (catL x5 x2.2).bind fun x6 =>
  some x6) p_law_found.1 p_law_found.2).bind fun s7 =>
  (foldB (ρ := Bool) (fun (x9 : R1) (s8 : Unit) =>
  (n_law_total s7 x9.1).bind fun x15 =>
  (compT (fun (x16 : TII) => x16.2) x9.2.2).bind fun c17 =>
  (if (!decide (x15 = (c17).sum)) = true then
  (some (Lp.rt false))
  else (some (Lp.nx ())))) p_law_debts_here ()).bind (lpK (fun s18 =>
  some true) (fun r => some r))
theorem l_law_each {p_law_found : R3} {p_law_debts_here : List R1} {r : Bool} (h : n_law_each p_law_found p_law_debts_here = some r) : phi_law_each [(eR3 p_law_found), (eLs eR1 p_law_debts_here)] = some (.p (D.bl r)) := by
  unfold n_law_each at h
  refine runF_wp rfl ?_
  show Wp (F_law_each [some (.p (eR3 p_law_found)), some (.p (eLs eR1 p_law_debts_here)), none, none, none, none, none, none, none, none]) _
  unfold F_law_each
  refine w_seq (e1 := [some (.p (eR3 p_law_found)), some (.p (eLs eR1 p_law_debts_here)), some (.p (eLs eTSI p_law_found.2)), none, none, none, none, none, none, none]) (w_set2 (e_fz (d := (eLs eTSI p_law_found.2)) (e_list (e_ix (e_b rfl) e_c (x_t 1 rfl)) (it_p _ _) rfl) (oL_toD (e := eTSI) p_law_found.2)) rfl rfl) ?_
  refine bnd h fun s7 hs7 h => ?_
  refine w_for (P := (fun e => ∃ u3, ∃ u4, e = [some (.p (eR3 p_law_found)), some (.p (eLs eR1 p_law_debts_here)), some (.p (eLs eTSI s7)), u3, u4, none, none, none, none, none])) (i_l (e_w (e_ix (e_b rfl) e_c (x_t 0 rfl)))) (loop_fold (dd := eR2) (fun (s1 : (List TSI)) e => ∃ u3, ∃ u4, e = [some (.p (eR3 p_law_found)), some (.p (eLs eR1 p_law_debts_here)), some (.p (eLs eTSI s1)), u3, u4, none, none, none, none, none]) ?_ _ _ _ _ ⟨_, _, rfl⟩ hs7) (fun e he => ?_)
  · intro x2 s1 sN env hR h
    obtain ⟨u3, u4, rfl⟩ := hR
    refine ⟨_, rfl, ?_⟩
    unfold B_law_each_1
    refine w_one ?_
    refine bnd h fun x5 hx5 h => ?_
    refine bnd h fun x6 hx6 h => ?_
    refine w_seq (e1 := [some (.p (eR3 p_law_found)), some (.p (eLs eR1 p_law_debts_here)), some (.p (eLs eTSI x6)), some (.p (eLs eTSI x2.1)), some (.p (eLs eTSI x2.2)), none, none, none, none, none]) (w_set2 (e_fz (d := (eLs eTSI x6)) (e_cat (e_cat (e_b rfl) (e_b rfl) (it_p _ _) (it_p _ _) rfl rfl hx5) (e_b rfl) (it_o _ _) (it_p _ _) rfl rfl hx6) (oL_toD (e := eTSI) x6)) rfl rfl) ?_
    have h := Option.some.inj h
    subst h
    exact w_nx ⟨Or.inl rfl, ⟨_, _, rfl⟩⟩
  · obtain ⟨u3, u4, rfl⟩ := he
    refine bnd h fun o19 ho19 h => ?_
    refine w_forB (R := (fun (s8 : Unit) e => ∃ u10, ∃ u11, ∃ u12, ∃ u13, ∃ u14, e = [some (.p (eR3 p_law_found)), some (.p (eLs eR1 p_law_debts_here)), some (.p (eLs eTSI s7)), u3, u4, u10, u11, u12, u13, u14])) (ET := (pE D.bl)) (i_l (e_v rfl)) (loop_foldB (dd := eR1) (fun (s8 : Unit) e => ∃ u10, ∃ u11, ∃ u12, ∃ u13, ∃ u14, e = [some (.p (eR3 p_law_found)), some (.p (eLs eR1 p_law_debts_here)), some (.p (eLs eTSI s7)), u3, u4, u10, u11, u12, u13, u14]) (pE D.bl) ?_ _ _ _ _ ⟨_, _, _, _, _, rfl⟩ ho19) h (fun s18 e he h => ?_) (fun v e h => ?_)
    · intro x9 s8 sN env hR h
      obtain ⟨u10, u11, u12, u13, u14, rfl⟩ := hR
      refine ⟨_, rfl, ?_⟩
      unfold B_law_each_2
      refine w_one ?_
      refine bnd h fun x15 hx15 h => ?_
      refine bnd h fun c17 hc17 h => ?_
      refine w_if (c_t (e_cmp (e_call (a_c (e_v rfl) (a_c (e_v rfl) a_n)) rfl (l_law_total hx15)) (e_b1 (e_compP (w := [some (.p (eR3 p_law_found)), some (.p (eLs eR1 p_law_debts_here)), some (.p (eLs eTSI s7)), u3, u4, some (.p (eS x9.1)), some (.p (eS x9.2.1)), some (.p (eLs eTII x9.2.2)), none, none]) (dd := eTII) (E := D.int) (i_l (e_v rfl)) rfl ((compT_F _ _).symm.trans hc17) (fun x16 => ⟨_, rfl, _, rfl, (fun hp => nomatch hp), fun y hp h => by
    have h := Option.some.inj h; subst h
    exact ⟨_, (e_v rfl), rfl⟩⟩)) (g_sumO _)) (u_p _) (u_p _) (g_ne eqQ_i))) h (fun hb h => ?_) (fun hb h => ?_)
      · have h := Option.some.inj h
        subst h
        exact w_sret e_c rfl
      · refine w_snx ?_
        have h := Option.some.inj h
        subst h
        exact w_nx ⟨Or.inl rfl, ⟨_, _, _, _, _, rfl⟩⟩
    · obtain ⟨u10, u11, u12, u13, u14, rfl⟩ := he
      refine w_one ?_
      have h := Option.some.inj h
      subst h
      exact w_sret e_c (Or.inl rfl)
    · have h := Option.some.inj h
      subst h
      exact Or.inl rfl
def n_law (p_law_script : List Int) : Option Bool :=
  (n_law_cell p_law_script (0 : Int)).bind fun x1 =>
  (n_law_names x1 (30 : Int)).bind fun x2 =>
  (n_law_debts (cutA p_law_script (some (2 : Int)) (some (62 : Int))) x2 [(cod "pp")]).bind fun x3 =>
  (n_law_events (cutA p_law_script (some (2 : Int)) (some (62 : Int))) x3).bind fun x4 =>
  (n_law_cell p_law_script (1 : Int)).bind fun x5 =>
  (n_law_mixed x5 (1 : Int)).bind fun x6 =>
  (atI [(0 : Int), (60 : Int), (120 : Int), ((x6 / (7 : Int)) % (121 : Int)), (90 : Int), ((10 : Int) + ((x6 / (7 : Int)) % (30 : Int))), (5 : Int)] (x6 % (7 : Int))).bind fun x7 =>
  (n_law_amounts x3).bind fun x8 =>
  (n_law_walked x8 x4 x7).bind fun x9 =>
  (n_law_sums x9).bind fun x10 =>
  (rng2  (1 : Int) (x7 + (1 : Int))).bind fun x11 =>
  (fold (fun (x13 : Int) (s12 : (List R2)) =>
  (n_law_pairs x10 (cod "paid") x13 x3).bind fun x15 =>
  (n_law_pairs x10 (cod "lost") x13 x3).bind fun x16 =>
  (push s12 (x15, x16)).bind fun x17 =>
  some x17) x11 ([] : List R2)).bind fun s18 =>
  (n_law_pairs x10 (cod "") (0 : Int) x3).bind fun x19 =>
  (compT (fun (x20 : R1) => (x20.1, x20.2.1, x20.2.2)) x3).bind fun c21 =>
  (n_told_days c21 x4 x7).bind fun x22 =>
  (opB (phi_law_alike 8 [(eR3 x22), (eR3 (s18, x19))])).bind fun x23 =>
  (if (!x23) = true then some true else ((n_law_each x22 x3).bind fun x24 =>
  some (!x24))).bind fun x25 =>
  (if x25 = true then
  (some false)
  else ((push (x22.2.map eTSI) (D.int (7 : Int))).bind fun x26 =>
  (allU (fun (x27 : R2) =>
  (push (x27.1.map eTSI) (D.int (7 : Int))).bind fun x30 =>
  some ()) x22.1).bind fun s35 =>
  (eqQ (D.lst [(eLs eR1 c21), (eLs eD x4)]) (eLs eD [(eLs eR1) x3, (eLs eD) x4])).bind fun x31 =>
  (if x31 = true then ((n_told_days c21 x4 x7).bind fun x32 =>
  (opB (phi_law_alike 8 [(eR3 x32), (eR3 (s18, x19))])).bind fun x33 =>
  some x33) else some false).bind fun x34 =>
  some x34))
theorem l_law {p_law_script : List Int} {r : Bool} (h : n_law p_law_script = some r) : phi_law [(eLs D.int p_law_script)] = some (.p (D.bl r)) := by
  unfold n_law at h
  refine runF_wp rfl ?_
  show Wp (F_law [some (.p (eLs D.int p_law_script)), none, none, none, none, none, none, none, none, none, none, none, none, none, none, none, none, none]) _
  unfold F_law
  refine bnd h fun x1 hx1 h => ?_
  refine bnd h fun x2 hx2 h => ?_
  refine w_seq (e1 := [some (.p (eLs D.int p_law_script)), some (.p (eLs eS x2)), none, none, none, none, none, none, none, none, none, none, none, none, none, none, none, none]) (w_set2 (e_fz (d := (eLs eS x2)) (e_call (a_c (e_call (a_c (e_v rfl) (a_c e_c a_n)) rfl (l_law_cell hx1)) (a_c e_c a_n)) rfl (l_law_names hx2)) (oL_toD (e := eS) x2)) rfl rfl) ?_
  refine bnd h fun x3 hx3 h => ?_
  refine w_seq (e1 := [some (.p (eLs D.int p_law_script)), some (.p (eLs eS x2)), some (.p (eLs eR1 x3)), none, none, none, none, none, none, none, none, none, none, none, none, none, none, none]) (w_set2 (e_fz (d := (eLs eR1 x3)) (e_call (a_c (e_fz (d := (eLs D.int (cutA p_law_script (some (2 : Int)) (some (62 : Int))))) (e_sl (e_b rfl) (o_s e_c) (o_s e_c) s_l) (oL_toD (e := D.int) (cutA p_law_script (some (2 : Int)) (some (62 : Int))))) (a_c (e_v rfl) (a_c (e_fz (d := (eLs eS [(cod "pp")])) (e_l (a_c (e_s "pp") a_n) rfl (show _ = ((oL eS [(cod "pp")]) : T) from rfl)) (oL_toD (e := eS) [(cod "pp")])) a_n))) rfl (l_law_debts hx3)) (oL_toD (e := eR1) x3)) rfl rfl) ?_
  refine bnd h fun x4 hx4 h => ?_
  refine w_seq (e1 := [some (.p (eLs D.int p_law_script)), some (.p (eLs eS x2)), some (.p (eLs eR1 x3)), some (.p (eLs eD x4)), none, none, none, none, none, none, none, none, none, none, none, none, none, none]) (w_set2 (e_fz (d := (eLs eD x4)) (e_call (a_c (e_fz (d := (eLs D.int (cutA p_law_script (some (2 : Int)) (some (62 : Int))))) (e_sl (e_b rfl) (o_s e_c) (o_s e_c) s_l) (oL_toD (e := D.int) (cutA p_law_script (some (2 : Int)) (some (62 : Int))))) (a_c (e_v rfl) a_n)) rfl (l_law_events hx4)) (oL_toD (e := eD) x4)) rfl rfl) ?_
  refine bnd h fun x5 hx5 h => ?_
  refine bnd h fun x6 hx6 h => ?_
  refine w_seq (e1 := [some (.p (eLs D.int p_law_script)), some (.p (eLs eS x2)), some (.p (eLs eR1 x3)), some (.p (eLs eD x4)), some (.p (D.int x6)), none, none, none, none, none, none, none, none, none, none, none, none, none]) (w_set2 (e_fz (d := (D.int x6)) (e_call (a_c (e_call (a_c (e_v rfl) (a_c e_c a_n)) rfl (l_law_cell hx5)) (a_c e_c a_n)) rfl (l_law_mixed hx6)) (u_p _)) rfl rfl) ?_
  refine bnd h fun x7 hx7 h => ?_
  refine w_seq (e1 := [some (.p (eLs D.int p_law_script)), some (.p (eLs eS x2)), some (.p (eLs eR1 x3)), some (.p (eLs eD x4)), some (.p (D.int x6)), some (.p (D.int x7)), none, none, none, none, none, none, none, none, none, none, none, none]) (w_set2 (e_w (e_ix (e_l (a_c e_c (a_c e_c (a_c e_c (a_c (e_op (e_op (e_v rfl) e_c (g_divR rfl)) e_c (g_modR rfl)) (a_c e_c (a_c (e_op e_c (e_op (e_op (e_v rfl) e_c (g_divR rfl)) e_c (g_modR rfl)) rfl) (a_c e_c a_n))))))) rfl (show _ = ((oL D.int [(0 : Int), (60 : Int), (120 : Int), ((x6 / (7 : Int)) % (121 : Int)), (90 : Int), ((10 : Int) + ((x6 / (7 : Int)) % (30 : Int))), (5 : Int)]) : T) from rfl)) (e_op (e_v rfl) e_c (g_modR rfl)) (x_o hx7))) rfl rfl) ?_
  refine bnd h fun x8 hx8 h => ?_
  refine w_seq (e1 := [some (.p (eLs D.int p_law_script)), some (.p (eLs eS x2)), some (.p (eLs eR1 x3)), some (.p (eLs eD x4)), some (.p (D.int x6)), some (.p (D.int x7)), some (oE (fun v => (T.lst [(.p (eS v.1)), (.p (D.int v.2.1)), (.p (D.int v.2.2.1)), (.p (eS v.2.2.2))])) x8), none, none, none, none, none, none, none, none, none, none, none]) (w_set2 (e_call (a_c (e_v rfl) a_n) rfl (l_law_amounts hx8)) rfl rfl) ?_
  refine bnd h fun x9 hx9 h => ?_
  refine w_seq (e1 := [some (.p (eLs D.int p_law_script)), some (.p (eLs eS x2)), some (.p (eLs eR1 x3)), some (.p (eLs eD x4)), some (.p (D.int x6)), some (.p (D.int x7)), some (oE (fun v => (T.lst [(.p (eS v.1)), (.p (D.int v.2.1)), (.p (D.int v.2.2.1)), (.p (eS v.2.2.2))])) x9), none, none, none, none, none, none, none, none, none, none, none]) (w_drop (e_callM (t := (oE (fun v => (T.lst [(.p (eS v.1)), (.p (D.int v.2.1)), (.p (D.int v.2.2.1)), (.p (eS v.2.2.2))])) x8)) (t2 := (oE (fun v => (T.lst [(.p (eS v.1)), (.p (D.int v.2.1)), (.p (D.int v.2.2.1)), (.p (eS v.2.2.2))])) x9)) (e' := [some (.p (eLs D.int p_law_script)), some (.p (eLs eS x2)), some (.p (eLs eR1 x3)), some (.p (eLs eD x4)), some (.p (D.int x6)), some (.p (D.int x7)), some (oE (fun v => (T.lst [(.p (eS v.1)), (.p (D.int v.2.1)), (.p (D.int v.2.2.1)), (.p (eS v.2.2.2))])) x9), none, none, none, none, none, none, none, none, none, none, none]) (pl_nm rfl) (a_c (e_v rfl) (a_c (e_v rfl) a_n)) rfl (by kernel_rfl) (l_law_walked hx9) (by kernel_rfl))) ?_
  refine bnd h fun x10 hx10 h => ?_
  refine w_seq (e1 := [some (.p (eLs D.int p_law_script)), some (.p (eLs eS x2)), some (.p (eLs eR1 x3)), some (.p (eLs eD x4)), some (.p (D.int x6)), some (.p (D.int x7)), some (.p (eLs (fun v => (D.lst [(eS v.1), (D.int v.2.1), (D.int v.2.2.1), (eS v.2.2.2)])) x9)), some (.p (eG kSIS D.int x10)), none, none, none, none, none, none, none, none, none, none]) (w_set2 (e_fz (d := (eG kSIS D.int x10)) (e_call (a_c (e_vl (d := (eLs (fun v => (D.lst [(eS v.1), (D.int v.2.1), (D.int v.2.2.1), (eS v.2.2.2)]))) x9) rfl (oE_toD (fun _ => (u_l (u_c (u_p _) (u_c (u_p _) (u_c (u_p _) (u_c (u_p _) u_n)))))) _)) a_n) rfl (l_law_sums hx10)) (oG_toD _)) rfl rfl) ?_
  refine w_seq (e1 := [some (.p (eLs D.int p_law_script)), some (.p (eLs eS x2)), some (.p (eLs eR1 x3)), some (.p (eLs eD x4)), some (.p (D.int x6)), some (.p (D.int x7)), some (.p (eLs (fun v => (D.lst [(eS v.1), (D.int v.2.1), (D.int v.2.2.1), (eS v.2.2.2)])) x9)), some (.p (eG kSIS D.int x10)), some (oL eR2 ([] : List R2)), none, none, none, none, none, none, none, none, none]) (w_set2 (e_l a_n rfl rfl) rfl rfl) ?_
  refine bnd h fun x11 hx11 h => ?_
  refine bnd h fun s18 hs18 h => ?_
  refine w_for (P := (fun e => ∃ u14, e = [some (.p (eLs D.int p_law_script)), some (.p (eLs eS x2)), some (.p (eLs eR1 x3)), some (.p (eLs eD x4)), some (.p (D.int x6)), some (.p (D.int x7)), some (.p (eLs (fun v => (D.lst [(eS v.1), (D.int v.2.1), (D.int v.2.2.1), (eS v.2.2.2)])) x9)), some (.p (eG kSIS D.int x10)), some (oL eR2 s18), u14, none, none, none, none, none, none, none, none])) (i_r2 (a_c e_c (a_c (e_op (e_v rfl) e_c rfl) a_n)) hx11) (loop_fold (dd := D.int) (fun (s12 : (List R2)) e => ∃ u14, e = [some (.p (eLs D.int p_law_script)), some (.p (eLs eS x2)), some (.p (eLs eR1 x3)), some (.p (eLs eD x4)), some (.p (D.int x6)), some (.p (D.int x7)), some (.p (eLs (fun v => (D.lst [(eS v.1), (D.int v.2.1), (D.int v.2.2.1), (eS v.2.2.2)])) x9)), some (.p (eG kSIS D.int x10)), some (oL eR2 s12), u14, none, none, none, none, none, none, none, none]) ?_ _ _ _ _ ⟨_, rfl⟩ hs18) (fun e he => ?_)
  · intro x13 s12 sN env hR h
    obtain ⟨u14, rfl⟩ := hR
    refine ⟨_, rfl, ?_⟩
    unfold B_law_1
    refine w_one ?_
    refine bnd h fun x15 hx15 h => ?_
    refine bnd h fun x16 hx16 h => ?_
    refine bnd h fun x17 hx17 h => ?_
    refine w_seq (e1 := [some (.p (eLs D.int p_law_script)), some (.p (eLs eS x2)), some (.p (eLs eR1 x3)), some (.p (eLs eD x4)), some (.p (D.int x6)), some (.p (D.int x7)), some (.p (eLs (fun v => (D.lst [(eS v.1), (D.int v.2.1), (D.int v.2.2.1), (eS v.2.2.2)])) x9)), some (.p (eG kSIS D.int x10)), some (oL eR2 x17), some (.p (D.int x13)), none, none, none, none, none, none, none, none]) (w_appL2 (dd := eR2) rfl (e_fz (d := (eR2 (x15, x16))) (e_t (a_c (e_call (a_c (e_v rfl) (a_c (e_s "paid") (a_c (e_v rfl) (a_c (e_v rfl) a_n)))) rfl (l_law_pairs hx15)) (a_c (e_call (a_c (e_v rfl) (a_c (e_s "lost") (a_c (e_v rfl) (a_c (e_v rfl) a_n)))) rfl (l_law_pairs hx16)) a_n)) rfl (show _ = ((.tup [(oL eTSI ((x15, x16).1)), (oL eTSI ((x15, x16).2))]) : T) from rfl)) (u_t (u_c (oL_toD _) (u_c (oL_toD _) u_n)))) rfl hx17 rfl) ?_
    have h := Option.some.inj h
    subst h
    exact w_nx ⟨Or.inl rfl, ⟨_, rfl⟩⟩
  · obtain ⟨u14, rfl⟩ := he
    refine bnd h fun x19 hx19 h => ?_
    refine w_seq (e1 := [some (.p (eLs D.int p_law_script)), some (.p (eLs eS x2)), some (.p (eLs eR1 x3)), some (.p (eLs eD x4)), some (.p (D.int x6)), some (.p (D.int x7)), some (.p (eLs (fun v => (D.lst [(eS v.1), (D.int v.2.1), (D.int v.2.2.1), (eS v.2.2.2)])) x9)), some (.p (eG kSIS D.int x10)), some (.p (eLs eR2 s18)), u14, some (.p (eR3 (s18, x19))), none, none, none, none, none, none, none]) (w_set2 (e_fz (d := (eR3 (s18, x19))) (e_t (a_c (e_vl (d := (eLs eR2) s18) rfl (oL_toD _)) (a_c (e_call (a_c (e_v rfl) (a_c (e_s "") (a_c e_c (a_c (e_v rfl) a_n)))) rfl (l_law_pairs hx19)) a_n)) rfl (show _ = ((.tup [(.p (eLs eR2 ((s18, x19).1))), (oL eTSI ((s18, x19).2))]) : T) from rfl)) (u_t (u_c (u_p _) (u_c (oL_toD _) u_n)))) rfl rfl) ?_
    refine bnd h fun c21 hc21 h => ?_
    refine w_seq (e1 := [some (.p (eLs D.int p_law_script)), some (.p (eLs eS x2)), some (.p (eLs eR1 x3)), some (.p (eLs eD x4)), some (.p (D.int x6)), some (.p (D.int x7)), some (.p (eLs (fun v => (D.lst [(eS v.1), (D.int v.2.1), (D.int v.2.2.1), (eS v.2.2.2)])) x9)), some (.p (eG kSIS D.int x10)), some (.p (eLs eR2 s18)), u14, some (.p (eR3 (s18, x19))), some (.p (D.lst [(eLs eR1 c21), (eLs eD x4)])), none, none, none, none, none, none]) (w_set2 (e_fz (d := (D.lst [(eLs eR1 c21), (eLs eD x4)])) (e_l (a_c (e_comp (w := [some (.p (eLs D.int p_law_script)), some (.p (eLs eS x2)), some (.p (eLs eR1 x3)), some (.p (eLs eD x4)), some (.p (D.int x6)), some (.p (D.int x7)), some (.p (eLs (fun v => (D.lst [(eS v.1), (D.int v.2.1), (D.int v.2.2.1), (eS v.2.2.2)])) x9)), some (.p (eG kSIS D.int x10)), some (.p (eLs eR2 s18)), u14, some (.p (eR3 (s18, x19))), none, none, none, none, none, none, none]) (dd := eR1) (E := (fun v => (.tup [(.p (eS v.1)), (.p (eS v.2.1)), (oL eTII v.2.2)]))) (i_l (e_v rfl)) rfl ((compT_F _ _).symm.trans hc21) (fun x20 => ⟨_, rfl, _, rfl, (fun hp => nomatch hp), fun y hp h => by
    have h := Option.some.inj h; subst h
    exact ⟨_, (e_t (a_c (e_v rfl) (a_c (e_v rfl) (a_c (e_list (e_b rfl) (it_p _ _) rfl) a_n))) rfl (show _ = ((.tup [(.p (eS ((x20.1, x20.2.1, x20.2.2).1))), (.p (eS ((x20.1, x20.2.1, x20.2.2).2.1))), (oL eTII ((x20.1, x20.2.1, x20.2.2).2.2))]) : T) from rfl)), rfl⟩⟩)) (a_c (e_list (e_b rfl) (it_p _ _) rfl) a_n)) rfl (show _ = ((T.lst [(oE (fun v => (.tup [(.p (eS v.1)), (.p (eS v.2.1)), (oL eTII v.2.2)])) c21), (oL eD x4)]) : T) from rfl)) (u_l (u_c (oE_toD (fun _ => (u_t (u_c (u_p _) (u_c (u_p _) (u_c (oL_toD _) u_n))))) _) (u_c (oL_toD (e := eD) x4) u_n)))) rfl rfl) ?_
    refine bnd h fun x22 hx22 h => ?_
    refine w_seq (e1 := [some (.p (eLs D.int p_law_script)), some (.p (eLs eS x2)), some (.p (eLs eR1 x3)), some (.p (eLs eD x4)), some (.p (D.int x6)), some (.p (D.int x7)), some (.p (eLs (fun v => (D.lst [(eS v.1), (D.int v.2.1), (D.int v.2.2.1), (eS v.2.2.2)])) x9)), some (.p (eG kSIS D.int x10)), some (.p (eLs eR2 s18)), u14, some (.p (eR3 (s18, x19))), some (.p (D.lst [(eLs eR1 c21), (eLs eD x4)])), none, none, none, some (.tup [(oE (fun v => (.tup [(oL eTSI v.1), (oL eTSI v.2)])) x22.1), (oL eTSI x22.2)]), none, none]) (w_set2 (e_call (a_c (e_w (e_ix (u := (.p (eLs eR1 c21))) (e_b rfl) e_c rfl)) (a_c (e_w (e_ix (u := (.p (eLs eD x4))) (e_b rfl) e_c rfl)) (a_c (e_v rfl) a_n))) rfl (l_told_days hx22)) rfl rfl) ?_
    refine bnd h fun x23 hx23 h => ?_
    refine bnd h fun x25 hx25 h => ?_
    refine w_if (c_orO (c_not (c_t (e_callB (a_c (e_b rfl) (a_c (e_b rfl) a_n)) (u_c (d := (eR3 x22)) (u_t (u_c (oE_toD (fun _ => (u_t (u_c (oL_toD _) (u_c (oL_toD _) u_n)))) _) (u_c (oL_toD _) u_n))) (u_c (d := (eR3 (s18, x19))) (u_p _) u_n)) (opq_B hx23) rfl))) hx25 (fun _ h => by
    refine bnd h fun x24 hx24 h => ?_
    have h := Option.some.inj h; subst h
    exact (c_not (c_t (e_callB (a_c (e_b rfl) (a_c (e_b rfl) a_n)) (u_c (d := (eR3 x22)) (u_t (u_c (oE_toD (fun _ => (u_t (u_c (oL_toD _) (u_c (oL_toD _) u_n)))) _) (u_c (oL_toD _) u_n))) (u_c (d := (eLs eR1 x3)) (u_p _) u_n)) (l_law_each hx24) rfl))))) h (fun hb h => ?_) (fun hb h => ?_)
    · have h := Option.some.inj h
      subst h
      exact w_sret e_c (Or.inl rfl)
    · refine w_snx ?_
      refine bnd h fun x26 hx26 h => ?_
      refine w_seq (e1 := [some (.p (eLs D.int p_law_script)), some (.p (eLs eS x2)), some (.p (eLs eR1 x3)), some (.p (eLs eD x4)), some (.p (D.int x6)), some (.p (D.int x7)), some (.p (eLs (fun v => (D.lst [(eS v.1), (D.int v.2.1), (D.int v.2.2.1), (eS v.2.2.2)])) x9)), some (.p (eG kSIS D.int x10)), some (.p (eLs eR2 s18)), u14, some (.p (eR3 (s18, x19))), some (.p (D.lst [(eLs eR1 c21), (eLs eD x4)])), none, none, none, some (T.tup [(oE (fun v => (.tup [(oL eTSI v.1), (oL eTSI v.2)])) x22.1), (oL eD x26)]), none, none]) (w_apLD (dd := eTSI) (p_it (k := 1) (pl_nm rfl) e_c rfl rfl rfl) rfl e_c rfl hx26 rfl) ?_
      refine bnd h fun s35 hs35 h => ?_
      refine w_forUL (E := (fun v => (.tup [(oL eTSI v.1), (oL eTSI v.2)]))) (xs := x22.1) (fun e => ∃ u28, ∃ u29, e = [some (.p (eLs D.int p_law_script)), some (.p (eLs eS x2)), some (.p (eLs eR1 x3)), some (.p (eLs eD x4)), some (.p (D.int x6)), some (.p (D.int x7)), some (.p (eLs (fun v => (D.lst [(eS v.1), (D.int v.2.1), (D.int v.2.2.1), (eS v.2.2.2)])) x9)), some (.p (eG kSIS D.int x10)), some (.p (eLs eR2 s18)), u14, some (.p (eR3 (s18, x19))), some (.p (D.lst [(eLs eR1 c21), (eLs eD x4)])), none, none, none, some (T.tup [(.al 0), (oL eD x26)]), u28, u29]) (e_mvP (u := (oE (fun v => (.tup [(oL eTSI v.1), (oL eTSI v.2)])) x22.1)) (e' := [some (.p (eLs D.int p_law_script)), some (.p (eLs eS x2)), some (.p (eLs eR1 x3)), some (.p (eLs eD x4)), some (.p (D.int x6)), some (.p (D.int x7)), some (.p (eLs (fun v => (D.lst [(eS v.1), (D.int v.2.1), (D.int v.2.2.1), (eS v.2.2.2)])) x9)), some (.p (eG kSIS D.int x10)), some (.p (eLs eR2 s18)), u14, some (.p (eR3 (s18, x19))), some (.p (D.lst [(eLs eR1 c21), (eLs eD x4)])), none, none, none, some (T.tup [(.al 0), (oL eD x26)]), none, none]) (p_it (k := 0) (pl_nm rfl) e_c rfl rfl rfl) (by kernel_rfl) (by kernel_rfl)) ⟨_, _, rfl⟩ hs35 (fun x27 env hR h => ?_) (fun e he => ?_)
      · obtain ⟨u28, u29, rfl⟩ := hR
        refine bnd h fun x30 hx30 h => ?_
        exact ⟨_, rfl, _, _, by unfold B_law_2; exact (w_appLD2 (dd := eTSI) rfl e_c rfl hx30 rfl), rfl, ⟨_, _, rfl⟩⟩
      · obtain ⟨u28, u29, rfl⟩ := he
        refine w_one ?_
        refine bnd h fun x31 hx31 h => ?_
        refine bnd h fun x34 hx34 h => ?_
        have h := Option.some.inj h
        subst h
        exact w_sret (e_andO (e_cmp (x := (D.lst [(eLs eR1 c21), (eLs eD x4)])) (y := (eLs eD [(eLs eR1) x3, (eLs eD) x4])) (e_b rfl) (e_l (a_c (e_v rfl) (a_c (e_v rfl) a_n)) rfl (show _ = ((oL eD [(eLs eR1) x3, (eLs eD) x4]) : T) from rfl)) (u_p _) (oL_toD (e := eD) [(eLs eR1) x3, (eLs eD) x4]) hx31) hx34 (fun _ h => by
    refine bnd h fun x32 hx32 h => ?_
    refine bnd h fun x33 hx33 h => ?_
    have h := Option.some.inj h; subst h
    exact (e_call (a_c (e_fz (d := (eR3 x32)) (e_call (a_c (e_w (e_ix (u := (.p (eLs eR1 c21))) (e_b rfl) e_c rfl)) (a_c (e_w (e_ix (u := (.p (eLs eD x4))) (e_b rfl) e_c rfl)) (a_c (e_v rfl) a_n))) rfl (l_told_days hx32)) (u_t (u_c (oE_toD (fun _ => (u_t (u_c (oL_toD _) (u_c (oL_toD _) u_n)))) _) (u_c (oL_toD _) u_n)))) (a_c (e_v rfl) a_n)) rfl (opq_B hx33)))) (Or.inl rfl)
end
end K15
set_option maxHeartbeats 1000000
namespace K15
open PySem PySem.Spec PyProof.Rows L2 DL
abbrev Am : Type := Nm × Int × Int × Nm
def paidF : Nm := cod "paid"
def lostF : Nm := cod "lost"
def noF : Nm := cod ""
theorem f_ne : noF ≠ paidF ∧ noF ≠ lostF ∧ paidF ≠ lostF ∧ cod "late" ≠ cod "quit" ∧ cod "late" ≠ cod "early" ∧ cod "early" ≠ cod "quit" := by decide
def sm (p : Am → Bool) : List Am → Int
  | [] => 0
  | a :: A => (if p a = true then a.2.2.1 else 0) + sm p A
theorem sm_congr {p q : Am → Bool} : ∀ {A : List Am}, (∀ a ∈ A, p a = q a) → sm p A = sm q A
  | [], _ => rfl
  | a :: A, h => by
    show (if p a = true then _ else _) + _ = (if q a = true then _ else _) + _
    rw [h a (by simp), sm_congr (A := A) fun b hb => h b (by simp [hb])]
theorem sm_map {p : Am → Bool} {f : Am → Am} (hf : ∀ a, (f a).2.2.1 = a.2.2.1) : ∀ A : List Am, sm p (A.map f) = sm (fun a => p (f a)) A
  | [] => rfl
  | a :: A => by
    show (if p (f a) = true then (f a).2.2.1 else 0) + sm p (A.map f) = _
    rw [sm_map hf A, hf]; rfl
theorem sm_or {p q r : Am → Bool} (h : ∀ a, r a = (p a || q a)) (hd : ∀ a, p a = true → q a = false) : ∀ A : List Am, sm r A = sm p A + sm q A
  | [] => rfl
  | a :: A => by
    show (if r a = true then a.2.2.1 else 0) + sm r A = (if p a = true then a.2.2.1 else 0) + sm p A + ((if q a = true then a.2.2.1 else 0) + sm q A)
    rw [sm_or h hd A, h a]
    cases hp : p a with
    | true => rw [hd a hp]; simp; omega
    | false => cases hq : q a <;> simp <;> omega
theorem sm_none {p : Am → Bool} : ∀ {A : List Am}, (∀ a ∈ A, p a = false) → sm p A = 0
  | [], _ => rfl
  | a :: A, h => by
    show (if p a = true then _ else _) + _ = _
    rw [h a (by simp), sm_none (A := A) fun b hb => h b (by simp [hb])]; rfl
theorem sm_pos {p : Am → Bool} : ∀ {A : List Am}, (∀ a ∈ A, 1 ≤ a.2.2.1) → 0 ≤ sm p A ∧ (0 < sm p A ↔ ∃ a ∈ A, p a = true)
  | [], _ => ⟨Int.le_refl _, by simp [sm]⟩
  | a :: A, h => by
    obtain ⟨h1, h2⟩ := sm_pos (p := p) (A := A) fun b hb => h b (by simp [hb])
    have h3 := h a (by simp)
    have e : sm p (a :: A) = (if p a = true then a.2.2.1 else 0) + sm p A := rfl
    rw [e]
    cases hp : p a with
    | true => exact ⟨by simp; omega, ⟨fun _ => ⟨a, by simp, hp⟩, fun _ => by simp; omega⟩⟩
    | false =>
      refine ⟨by simpa using h1, ?_⟩
      simp only [Bool.false_eq_true, if_false, Int.zero_add]
      rw [h2]
      constructor
      · rintro ⟨b, hb, hq⟩; exact ⟨b, by simp [hb], hq⟩
      · rintro ⟨b, hb, hq⟩
        rcases List.mem_cons.mp hb with rfl | hb
        · rw [hp] at hq; cases hq
        · exact ⟨b, hb, hq⟩
def pD (f : Nm) (d : Int) (n : Nm) (a : Am) : Bool := decide (a.1 = n) && decide (a.2.1 = d) && decide (a.2.2.2 = f)
def pN (f : Nm) (n : Nm) (a : Am) : Bool := decide (a.1 = n) && decide (a.2.2.2 = f)
def evA (e : Ev) (a : Am) : Am := if a.1 = e.2.1 ∧ a.2.2.2 = noF then (if e.1 = cod "quit" then (a.1, e.2.2.1, a.2.2.1, lostF) else if e.1 = cod "early" then (a.1, e.2.2.1, a.2.2.1, a.2.2.2) else if a.2.1 = e.2.2.1 then (a.1, e.2.2.1 + e.2.2.2, a.2.2.1, a.2.2.2) else a) else a
def payA (d : Int) (a : Am) : Am := if a.2.1 = d ∧ a.2.2.2 = noF then (a.1, a.2.1, a.2.2.1, paidF) else a
theorem evA_c (e : Ev) (a : Am) : (evA e a).2.2.1 = a.2.2.1 ∧ (evA e a).1 = a.1 := by
  unfold evA
  split
  · split
    · exact ⟨rfl, rfl⟩
    · split
      · exact ⟨rfl, rfl⟩
      · split <;> exact ⟨rfl, rfl⟩
  · exact ⟨rfl, rfl⟩
theorem payA_c (d : Int) (a : Am) : (payA d a).2.2.1 = a.2.2.1 ∧ (payA d a).1 = a.1 := by
  unfold payA
  split <;> exact ⟨rfl, rfl⟩
def val (l : PLn) (d : Int) : Int := (lkN l d).getD 0
theorem sumL_cons (p : Int × Int) (l : PLn) : sumL (p :: l) = p.2 + sumL l := by unfold sumL; rw [List.map_cons, List.sum_cons]
theorem val_cons (p : Int × Int) (l : PLn) (d : Int) : val (p :: l) d = if p.1 = d then p.2 else val l d := by
  unfold val
  rw [lkI_cons]
  split <;> rfl
theorem poN_cons (p : Int × Int) (l : PLn) (d : Int) : poN (p :: l) d = if p.1 = d then poN l d else p :: poN l d := by
  unfold poN
  by_cases h : p.1 = d
  · rw [List.filter_cons_of_neg (by simpa using h), if_pos h]
  · rw [List.filter_cons_of_pos (by simpa using h), if_neg h]
theorem val_poN (d x : Int) : ∀ l : PLn, val (poN l d) x = if x = d then 0 else val l x
  | [] => by unfold poN val; simp [lkN]
  | p :: l => by
    rw [poN_cons]
    by_cases h : p.1 = d
    · rw [if_pos h, val_poN d x l, val_cons]
      by_cases hx : x = d
      · rw [if_pos hx, if_pos hx]
      · rw [if_neg hx, if_neg hx, if_neg (fun z => hx (by omega))]
    · rw [if_neg h, val_cons, val_poN d x l, val_cons]
      by_cases hx : x = d
      · rw [if_pos hx, if_pos hx, if_neg (fun z => h (by omega))]
      · rw [if_neg hx, if_neg hx]
theorem val_no {d : Int} {l : PLn} (h : d ∉ l.map (·.1)) : val l d = 0 := by unfold val; rw [lkN_none h]; rfl
theorem poN_no {d : Int} {l : PLn} (h : d ∉ l.map (·.1)) : poN l d = l := by unfold poN; exact List.filter_eq_self.mpr fun p hp => decide_eq_true fun z => h (List.mem_map.mpr ⟨p, hp, z⟩)
theorem sum_poN (d : Int) : ∀ {l : PLn}, (l.map (·.1)).Nodup → sumL (poN l d) = sumL l - val l d
  | [], _ => rfl
  | p :: l, hn => by
    rw [List.map_cons] at hn
    obtain ⟨n1, n2⟩ := List.nodup_cons.mp hn
    rw [poN_cons, val_cons, sumL_cons]
    by_cases h : p.1 = d
    · rw [if_pos h, if_pos h, poN_no (by rw [← h]; exact n1)]; omega
    · rw [if_neg h, if_neg h, sumL_cons, sum_poN d n2]; omega
theorem nd_poN {d : Int} {l : PLn} (h : (l.map (·.1)).Nodup) : ((poN l d).map (·.1)).Nodup := h.sublist (List.filter_sublist.map _)
theorem val_putN (l : PLn) (k v x : Int) : val (putN l k v) x = if x = k then v else val l x := by
  unfold val
  rw [lk_put]
  split <;> rfl
theorem nd_putN {k v : Int} {l : PLn} (h : (l.map (·.1)).Nodup) : ((putN l k v).map (·.1)).Nodup := by
  rw [putN_keys]
  split
  · exact h
  · rename_i q
    exact List.nodup_append.mpr ⟨h, by simp, fun a ha b hb => by rw [List.mem_singleton.mp hb]; exact fun z => q (by rw [← z]; exact ha)⟩
theorem mapk_no {k v : Int} : ∀ {l : PLn}, k ∉ l.map (·.1) → l.map (fun p => if p.1 = k then (p.1, v) else p) = l
  | [], _ => rfl
  | p :: l, h => by
    rw [List.map_cons, List.mem_cons, not_or] at h
    rw [List.map_cons, if_neg (fun z => h.1 z.symm), mapk_no h.2]
theorem sum_mapk (k v : Int) : ∀ {l : PLn}, (l.map (·.1)).Nodup → k ∈ l.map (·.1) → sumL (l.map fun p => if p.1 = k then (p.1, v) else p) = sumL l - val l k + v
  | [], _, h => by cases h
  | p :: l, hn, h => by
    rw [List.map_cons] at hn h
    obtain ⟨n1, n2⟩ := List.nodup_cons.mp hn
    rw [List.map_cons, sumL_cons, sumL_cons, val_cons]
    by_cases c : p.1 = k
    · rw [if_pos c, if_pos c, mapk_no (by rw [← c]; exact n1)]
      show v + sumL l = _
      omega
    · rw [if_neg c, if_neg c]
      rcases List.mem_cons.mp h with e | h
      · exact absurd e.symm c
      · rw [sum_mapk k v n2 h]; omega
theorem sum_putN {l : PLn} (k v : Int) (hn : (l.map (·.1)).Nodup) : sumL (putN l k v) = sumL l - val l k + v := by
  unfold putN
  by_cases h : k ∈ l.map (·.1)
  · rw [if_pos (List.any_eq_true.mpr (by obtain ⟨p, hp, e⟩ := List.mem_map.mp h; exact ⟨p, hp, decide_eq_true e⟩)), sum_mapk k v hn h]
  · rw [if_neg (by
      rw [List.any_eq_true]
      rintro ⟨p, hp, e⟩
      exact h (List.mem_map.mpr ⟨p, hp, of_decide_eq_true e⟩)), val_no h]
    unfold sumL
    rw [List.map_append, List.sum_append]; simp
theorem lk_setO {n m : Nm} {l : PLn} (h : m ≠ n) : ∀ ps : PSn, lkN (setS ps n l) m = lkN ps m
  | [] => rfl
  | x :: ps => by
    show lkN ((if x.1 = n then (x.1, l) else x) :: setS ps n l) m = _
    rw [K15.lk_cons, K15.lk_cons, lk_setO h ps]
    by_cases c : x.1 = n
    · rw [if_pos c, if_neg (fun z => h (z.symm.trans c)), if_neg (fun z => h (z.symm.trans c))]
    · rw [if_neg c]
theorem get_set {ps : PSn} {n m : Nm} {l : PLn} (hn : n ∈ ps.map (·.1)) : getL (setS ps n l) m = if m = n then l else getL ps m := by
  unfold getL
  by_cases h : m = n
  · subst h
    obtain ⟨a, ha⟩ := lk_some hn
    rw [if_pos rfl, lk_setS ha]; rfl
  · rw [if_neg h, lk_setO h]
end K15
namespace K15
open PySem PySem.Spec PyProof.Rows L2 DL
section
variable {e : Ev} {a : Am} {f : Nm} {x d : Int} {m : Nm}
theorem evA_off (h : ¬ (a.1 = e.2.1 ∧ a.2.2.2 = noF)) : evA e a = a := if_neg h
theorem pD_other (h : m ≠ e.2.1) : pD f x m (evA e a) = pD f x m a := by
  by_cases c : a.1 = e.2.1
  · unfold pD
    rw [(evA_c e a).2, c, decide_eq_false (fun z => h z.symm)]; rfl
  · rw [evA_off (fun z => c z.1)]
theorem pN_other (h : m ≠ e.2.1) : pN f m (evA e a) = pN f m a := by
  by_cases c : a.1 = e.2.1
  · unfold pN
    rw [(evA_c e a).2, c, decide_eq_false (fun z => h z.symm)]; rfl
  · rw [evA_off (fun z => c z.1)]
theorem pD_late (hl : e.1 = cod "late") (hk : 1 ≤ e.2.2.2) : pD noF x e.2.1 (evA e a) = if x = e.2.2.1 then false else if x = e.2.2.1 + e.2.2.2 then (pD noF e.2.2.1 e.2.1 a || pD noF x e.2.1 a) else pD noF x e.2.1 a := by
  obtain ⟨_, _, _, q1, q2, _⟩ := f_ne
  by_cases h1 : a.1 = e.2.1 ∧ a.2.2.2 = noF
  · have e1 : evA e a = if a.2.1 = e.2.2.1 then (a.1, e.2.2.1 + e.2.2.2, a.2.2.1, a.2.2.2) else a := by
      unfold evA
      rw [if_pos h1, hl, if_neg q1, if_neg q2]
    have e2 : ∀ y, pD noF y e.2.1 a = decide (a.2.1 = y) := fun y => by unfold pD; rw [h1.1, h1.2]; simp
    have e3 : pD noF x e.2.1 (evA e a) = decide ((if a.2.1 = e.2.2.1 then e.2.2.1 + e.2.2.2 else a.2.1) = x) := by
      rw [e1]
      unfold pD
      by_cases c : a.2.1 = e.2.2.1
      · rw [if_pos c, if_pos c]; simp [h1.1, h1.2]
      · rw [if_neg c, if_neg c]; simp [h1.1, h1.2]
    rw [e2, e2, e3]
    by_cases c : a.2.1 = e.2.2.1
    · rw [if_pos c]
      split
      · exact decide_eq_false (by omega)
      · split
        · rw [decide_eq_true c, Bool.true_or]; exact decide_eq_true (by omega)
        · rw [decide_eq_false (by omega), decide_eq_false (by omega)]
    · rw [if_neg c]
      split
      · exact decide_eq_false (by omega)
      · split
        · rw [decide_eq_false c, Bool.false_or]
        · rfl
  · rw [evA_off h1]
    have e2 : ∀ y, pD noF y e.2.1 a = false := fun y => by
      unfold pD
      by_cases c : a.1 = e.2.1
      · rw [decide_eq_false (p := a.2.2.2 = noF) (fun z => h1 ⟨c, z⟩), Bool.and_false]
      · rw [decide_eq_false c]; rfl
    rw [e2, e2]; simp
theorem pN_keep (hl : e.1 ≠ cod "quit") : pN noF m (evA e a) = pN noF m a := by
  by_cases h1 : a.1 = e.2.1 ∧ a.2.2.2 = noF
  · unfold pN evA
    rw [if_pos h1, if_neg hl]
    split
    · rfl
    · split <;> rfl
  · rw [evA_off h1]
theorem pD_early (hl : e.1 = cod "early") : pD noF x e.2.1 (evA e a) = if x = e.2.2.1 then pN noF e.2.1 a else false := by
  obtain ⟨_, _, _, _, _, q⟩ := f_ne
  by_cases h1 : a.1 = e.2.1 ∧ a.2.2.2 = noF
  · have e1 : evA e a = (a.1, e.2.2.1, a.2.2.1, a.2.2.2) := by
      unfold evA
      rw [if_pos h1, hl, if_neg q, if_pos rfl]
    rw [e1]
    unfold pD pN
    rw [h1.1, h1.2]
    split
    · rename_i c; simp [c]
    · rename_i c; simp [show ¬ e.2.2.1 = x from fun z => c z.symm]
  · rw [evA_off h1]
    have e2 : ∀ y, pD noF y e.2.1 a = false := fun y => by
      unfold pD
      by_cases c : a.1 = e.2.1
      · rw [decide_eq_false (p := a.2.2.2 = noF) (fun z => h1 ⟨c, z⟩), Bool.and_false]
      · rw [decide_eq_false c]; rfl
    have e3 : pN noF e.2.1 a = false := by
      unfold pN
      by_cases c : a.1 = e.2.1
      · rw [decide_eq_false (p := a.2.2.2 = noF) (fun z => h1 ⟨c, z⟩), Bool.and_false]
      · rw [decide_eq_false c]; rfl
    rw [e2, e3]; simp
theorem evA_quit (hl : e.1 = cod "quit") (h1 : a.1 = e.2.1 ∧ a.2.2.2 = noF) : evA e a = (a.1, e.2.2.1, a.2.2.1, lostF) := by unfold evA; rw [if_pos h1, if_pos hl]
theorem pN_no (h1 : ¬ (a.1 = e.2.1 ∧ a.2.2.2 = noF)) : pN noF e.2.1 a = false := by
  unfold pN
  by_cases c : a.1 = e.2.1
  · rw [decide_eq_false (p := a.2.2.2 = noF) (fun z => h1 ⟨c, z⟩), Bool.and_false]
  · rw [decide_eq_false c]; rfl
theorem pD_noN (h : pN f m a = false) : pD f x m a = false := by
  unfold pN at h
  unfold pD
  cases c1 : decide (a.1 = m)
  · rfl
  · rw [c1, Bool.true_and] at h; rw [h, Bool.and_false]
theorem pN_quit (hl : e.1 = cod "quit") : pN noF e.2.1 (evA e a) = false := by
  by_cases h1 : a.1 = e.2.1 ∧ a.2.2.2 = noF
  · rw [evA_quit hl h1]
    unfold pN
    rw [decide_eq_false (p := lostF = noF) (fun z => f_ne.2.1 z.symm), Bool.and_false]
  · rw [evA_off h1, pN_no h1]
theorem pL_quit (hl : e.1 = cod "quit") : pD lostF e.2.2.1 e.2.1 (evA e a) = (pD lostF e.2.2.1 e.2.1 a || pN noF e.2.1 a) := by
  by_cases h1 : a.1 = e.2.1 ∧ a.2.2.2 = noF
  · rw [evA_quit hl h1]
    unfold pD pN
    rw [h1.1, h1.2]; simp
  · rw [evA_off h1, pN_no h1, Bool.or_false]
theorem pP_keep : pD paidF x m (evA e a) = pD paidF x m a := by
  by_cases h1 : a.1 = e.2.1 ∧ a.2.2.2 = noF
  · have e1 : (evA e a).2.2.2 ≠ paidF := by
      unfold evA
      rw [if_pos h1]
      split
      · exact fun z => f_ne.2.2.1 z.symm
      · split
        · rw [h1.2]; exact f_ne.1
        · split
          · rw [h1.2]; exact f_ne.1
          · rw [h1.2]; exact f_ne.1
    unfold pD
    rw [decide_eq_false e1, Bool.and_false, decide_eq_false (p := a.2.2.2 = paidF) (by rw [h1.2]; exact f_ne.1), Bool.and_false]
  · rw [evA_off h1]
theorem pL_keep (h : e.1 ≠ cod "quit" ∨ x ≠ e.2.2.1 ∨ m ≠ e.2.1) : pD lostF x m (evA e a) = pD lostF x m a := by
  by_cases h1 : a.1 = e.2.1 ∧ a.2.2.2 = noF
  · have e0 : pD lostF x m a = false := by
      unfold pD
      rw [h1.2, decide_eq_false (p := noF = lostF) f_ne.2.1, Bool.and_false]
    rw [e0]
    by_cases hq : e.1 = cod "quit"
    · rw [evA_quit hq h1]
      unfold pD
      rcases h with h | h | h
      · exact absurd hq h
      · rw [decide_eq_false (p := e.2.2.1 = x) (fun z => h z.symm)]; simp
      · rw [h1.1, decide_eq_false (p := e.2.1 = m) (fun z => h z.symm)]; rfl
    · have e1 : (evA e a).2.2.2 ≠ lostF := by
        unfold evA
        rw [if_pos h1, if_neg hq]
        split
        · rw [h1.2]; exact f_ne.2.1
        · split
          · rw [h1.2]; exact f_ne.2.1
          · rw [h1.2]; exact f_ne.2.1
      unfold pD
      rw [decide_eq_false e1, Bool.and_false]
  · rw [evA_off h1]
theorem payA_off (h : ¬ (a.2.1 = d ∧ a.2.2.2 = noF)) : payA d a = a := if_neg h
theorem payA_on (h : a.2.1 = d ∧ a.2.2.2 = noF) : payA d a = (a.1, a.2.1, a.2.2.1, paidF) := if_pos h
theorem pD_pay : pD noF x m (payA d a) = if x = d then false else pD noF x m a := by
  by_cases h : a.2.1 = d ∧ a.2.2.2 = noF
  · rw [payA_on h]
    unfold pD
    rw [decide_eq_false (p := paidF = noF) (fun z => f_ne.1 z.symm), Bool.and_false]
    split
    · rfl
    · rename_i c
      rw [h.1, decide_eq_false (p := d = x) (fun z => c z.symm)]; simp
  · rw [payA_off h]
    split
    · rename_i c
      subst c
      unfold pD
      by_cases c2 : a.2.1 = x
      · rw [decide_eq_false (p := a.2.2.2 = noF) (fun z => h ⟨c2, z⟩), Bool.and_false]
      · rw [decide_eq_false c2]; simp
    · rfl
theorem pN_pay : pN noF m a = (pN noF m (payA d a) || pD noF d m a) := by
  by_cases h : a.2.1 = d ∧ a.2.2.2 = noF
  · rw [payA_on h]
    unfold pN pD
    rw [h.1, h.2]; simp [show ¬ paidF = noF from fun z => f_ne.1 z.symm]
  · rw [payA_off h]
    have : pD noF d m a = false := by
      unfold pD
      by_cases c2 : a.2.1 = d
      · rw [decide_eq_false (p := a.2.2.2 = noF) (fun z => h ⟨c2, z⟩), Bool.and_false]
      · rw [decide_eq_false c2]; simp
    rw [this, Bool.or_false]
theorem pN_pay2 (h : pN noF m (payA d a) = true) : pD noF d m a = false := by
  by_cases c : a.2.1 = d ∧ a.2.2.2 = noF
  · rw [payA_on c] at h
    unfold pN at h
    rw [decide_eq_false (p := paidF = noF) (fun z => f_ne.1 z.symm), Bool.and_false] at h
    cases h
  · unfold pD
    by_cases c2 : a.2.1 = d
    · rw [decide_eq_false (p := a.2.2.2 = noF) (fun z => c ⟨c2, z⟩), Bool.and_false]
    · rw [decide_eq_false c2]; simp
theorem pP_pay : pD paidF d m (payA d a) = (pD paidF d m a || pD noF d m a) := by
  by_cases h : a.2.1 = d ∧ a.2.2.2 = noF
  · rw [payA_on h]
    unfold pD
    rw [h.1, h.2]; simp [show ¬ noF = paidF from f_ne.1]
  · rw [payA_off h]
    have : pD noF d m a = false := by
      unfold pD
      by_cases c2 : a.2.1 = d
      · rw [decide_eq_false (p := a.2.2.2 = noF) (fun z => h ⟨c2, z⟩), Bool.and_false]
      · rw [decide_eq_false c2]; simp
    rw [this, Bool.or_false]
theorem pF_pay (hf : f = lostF ∨ f = paidF ∧ x ≠ d) : pD f x m (payA d a) = pD f x m a := by
  by_cases h : a.2.1 = d ∧ a.2.2.2 = noF
  · rw [payA_on h]
    unfold pD
    rw [h.2]
    rcases hf with rfl | ⟨rfl, hx⟩
    · rw [decide_eq_false (p := paidF = lostF) f_ne.2.2.1, decide_eq_false (p := noF = lostF) f_ne.2.1]
    · rw [h.1, decide_eq_false (p := d = x) (fun z => hx z.symm)]; simp
  · rw [payA_off h]
end
end K15
namespace K15
open PySem PySem.Spec PyProof.Rows L2 DL
structure Rel (names : List Nm) (A : List Am) (ps : PSn) : Prop where
  keys : ps.map (·.1) = names
  nd : ∀ n ∈ names, ((getL ps n).map (·.1)).Nodup
  v : ∀ n ∈ names, ∀ d, val (getL ps n) d = sm (pD noF d n) A
  s : ∀ n ∈ names, sumL (getL ps n) = sm (pN noF n) A
  c : ∀ a ∈ A, 1 ≤ a.2.2.1
variable {names : List Nm} {A : List Am} {ps : PSn} {e : Ev} {d : Int}
theorem sm_ev (p : Am → Bool) (e : Ev) (A : List Am) : sm p (A.map (evA e)) = sm (fun a => p (evA e a)) A := sm_map (fun a => (evA_c e a).1) A
theorem sm_pay (p : Am → Bool) (d : Int) (A : List Am) : sm p (A.map (payA d)) = sm (fun a => p (payA d a)) A := sm_map (fun a => (payA_c d a).1) A
theorem c_map {f : Am → Am} (hf : ∀ a, (f a).2.2.1 = a.2.2.1) (h : ∀ a ∈ A, 1 ≤ a.2.2.1) : ∀ a ∈ A.map f, 1 ≤ a.2.2.1 := fun a ha => by
  obtain ⟨b, hb, rfl⟩ := List.mem_map.mp ha
  rw [hf]; exact h b hb
theorem Rel.set (R : Rel names A ps) {A2 : List Am} {n : Nm} {l : PLn} (hn : n ∈ names) (hc : ∀ a ∈ A2, 1 ≤ a.2.2.1) (hnd : (l.map (·.1)).Nodup) (hv : ∀ x, val l x = sm (pD noF x n) A2) (hs : sumL l = sm (pN noF n) A2)
    (hv2 : ∀ m ∈ names, m ≠ n → ∀ x, sm (pD noF x m) A2 = sm (pD noF x m) A) (hs2 : ∀ m ∈ names, m ≠ n → sm (pN noF m) A2 = sm (pN noF m) A) : Rel names A2 (setS ps n l) := by
  have hk : n ∈ ps.map (·.1) := by rw [R.keys]; exact hn
  refine ⟨by rw [setS_keys]; exact R.keys, fun m hm => ?_, fun m hm x => ?_, fun m hm => ?_, hc⟩
  · rw [get_set hk]
    split
    · exact hnd
    · exact R.nd m hm
  · rw [get_set hk]
    split
    · rename_i q; rw [q]; exact hv x
    · rename_i q; rw [R.v m hm, hv2 m hm q]
  · rw [get_set hk]
    split
    · rename_i q; rw [q]; exact hs
    · rename_i q; rw [R.s m hm, hs2 m hm q]
def lateL (l : PLn) (d k : Int) : PLn := if 0 < (lkN l d).getD 0 then putN (poN l d) (d + k) ((lkN (poN l d) (d + k)).getD 0 + (lkN l d).getD 0) else poN l d
theorem lateS_eq (ps : PSn) (n : Nm) (l : PLn) (d k : Int) : lateS ps n l d k = setS ps n (lateL l d k) := by
  unfold lateS lateL
  split <;> rfl
def wholeL (w : Nm) (l : PLn) (d : Int) : PLn := if w = cod "quit" then [] else if 0 < sumL l then [(d, sumL l)] else []
theorem wholeS_eq (ps : PSn) (w n : Nm) (l : PLn) (d : Int) : wholeS ps w n l d = setS ps n (wholeL w l d) := by
  unfold wholeS wholeL earlyS
  split
  · rfl
  · split <;> rfl
theorem event_rel (R : Rel names A ps) (hw : WOk names e) (hk : e.1 = cod "late" → 1 ≤ e.2.2.2) : Rel names (A.map (evA e)) (evN ps e) ∧ evR ps e = if e.1 = cod "quit" then sm (pN noF e.2.1) A else 0 := by
  obtain ⟨w, n, d, k⟩ := e
  obtain ⟨hw1, hn⟩ := hw
  simp only at hw1 hn hk
  have hc := c_map (f := evA (w, n, d, k)) (fun a => (evA_c _ a).1) R.c
  have o1 : ∀ m ∈ names, m ≠ n → ∀ x, sm (pD noF x m) (A.map (evA (w, n, d, k))) = sm (pD noF x m) A := fun m _ hm x => by
    rw [sm_ev]; exact sm_congr fun a _ => pD_other hm
  have o2 : ∀ m ∈ names, m ≠ n → sm (pN noF m) (A.map (evA (w, n, d, k))) = sm (pN noF m) A := fun m _ hm => by
    rw [sm_ev]; exact sm_congr fun a _ => pN_other hm
  have hnd := R.nd n hn
  have hv := R.v n hn
  have hs := R.s n hn
  obtain ⟨_, _, _, q1, q2, q3⟩ := f_ne
  unfold evN evR
  simp only
  rcases hw1 with rfl | rfl | rfl
  · rw [if_pos rfl, if_pos rfl, if_neg q1, lateS_eq]
    have hk := hk rfl
    refine ⟨R.set hn hc ?_ ?_ ?_ o1 o2, rfl⟩
    · unfold lateL
      split
      · exact nd_putN (nd_poN hnd)
      · exact nd_poN hnd
    · intro x
      have e1 : val (lateL (getL ps n) d k) x = if x = d then 0 else if x = d + k then val (getL ps n) d + val (getL ps n) x else val (getL ps n) x := by
        have h0 : 0 ≤ val (getL ps n) d := by rw [hv]; exact (sm_pos R.c).1
        unfold lateL
        show val (if 0 < val (getL ps n) d then putN (poN (getL ps n) d) (d + k) (val (poN (getL ps n) d) (d + k) + val (getL ps n) d) else poN (getL ps n) d) x = _
        by_cases c : 0 < val (getL ps n) d
        · rw [if_pos c, val_putN, val_poN, val_poN]
          by_cases c1 : x = d
          · rw [if_pos c1, if_pos c1, if_neg (by omega)]
          · rw [if_neg c1, if_neg c1]
            split
            · rename_i c2; rw [if_neg (by omega), c2]; omega
            · rfl
        · rw [if_neg c, val_poN]
          split
          · rfl
          · split
            · omega
            · rfl
      rw [e1, sm_ev, sm_congr (fun a _ => pD_late (e := (cod "late", n, d, k)) (x := x) rfl hk)]
      simp only
      split
      · exact (sm_none fun _ _ => rfl).symm
      · split
        · rename_i c1 c2
          rw [hv, hv]
          refine (sm_or (fun _ => rfl) (fun a ha => ?_) A).symm
          unfold pD at ha ⊢
          cases c3 : decide (a.2.1 = d)
          · rw [c3, Bool.and_false] at ha; cases ha
          · rw [decide_eq_false (p := a.2.1 = x) (by have := of_decide_eq_true c3; omega)]; simp
        · rw [hv]
    · have e1 : sumL (lateL (getL ps n) d k) = sumL (getL ps n) := by
        have h0 : 0 ≤ val (getL ps n) d := by rw [hv]; exact (sm_pos R.c).1
        unfold lateL
        show sumL (if 0 < val (getL ps n) d then putN (poN (getL ps n) d) (d + k) (val (poN (getL ps n) d) (d + k) + val (getL ps n) d) else poN (getL ps n) d) = _
        split
        · rw [sum_putN _ _ (nd_poN hnd), sum_poN d hnd]; omega
        · rw [sum_poN d hnd]; omega
      rw [e1, hs, sm_ev]
      exact (sm_congr fun a _ => pN_keep (e := (cod "late", n, d, k)) q1).symm
  · have q4 : ¬ cod "early" = cod "late" := fun z => q2 z.symm
    rw [if_neg q4, if_neg q4, if_neg q3, wholeS_eq]
    have el : wholeL (cod "early") (getL ps n) d = if 0 < sumL (getL ps n) then [(d, sumL (getL ps n))] else [] := by unfold wholeL; rw [if_neg q3]
    rw [el]
    have h0 : 0 ≤ sumL (getL ps n) := by rw [hs]; exact (sm_pos R.c).1
    refine ⟨R.set hn hc ?_ ?_ ?_ o1 o2, by unfold wholeR; rw [if_neg q3]⟩
    · split <;> simp
    · intro x
      rw [sm_ev, sm_congr (fun a _ => pD_early (e := (cod "early", n, d, k)) (x := x) rfl)]
      simp only
      have e1 : val (if 0 < sumL (getL ps n) then [(d, sumL (getL ps n))] else []) x = if x = d then sumL (getL ps n) else 0 := by
        split
        · rw [val_cons]
          by_cases c : x = d
          · rw [if_pos c, if_pos (by simp [c])]
          · rw [if_neg c, if_neg (by simpa using fun z => c (z.symm))]; rfl
        · split
          · show (0 : Int) = _; omega
          · rfl
      rw [e1]
      split
      · exact hs
      · exact (sm_none fun _ _ => rfl).symm
    · have e1 : sumL (if 0 < sumL (getL ps n) then [(d, sumL (getL ps n))] else []) = sumL (getL ps n) := by
        split
        · simp [sumL]
        · show (0 : Int) = _; omega
      rw [e1, hs, sm_ev]
      exact (sm_congr fun a _ => pN_keep (e := (cod "early", n, d, k)) q3).symm
  · have q4 : ¬ cod "quit" = cod "late" := fun z => q1 z.symm
    rw [if_neg q4, if_neg q4, if_pos rfl, wholeS_eq]
    have el : wholeL (cod "quit") (getL ps n) d = [] := by unfold wholeL; rw [if_pos rfl]
    rw [el]
    refine ⟨R.set hn hc ?_ ?_ ?_ o1 o2, by unfold wholeR; rw [if_pos rfl]; exact hs⟩
    · simp
    · intro x
      rw [sm_ev, sm_none fun a _ => pD_noN (pN_quit (e := (cod "quit", n, d, k)) rfl)]; rfl
    · rw [sm_ev, sm_none fun a _ => pN_quit (e := (cod "quit", n, d, k)) rfl]; rfl
def stepA (d : Int) (e : Ev) (A : List Am) : List Am := if e.2.2.1 = d then A.map (evA e) else A
def FO (A : List Am) (d : Int) : Prop := ∀ a ∈ A, a.2.2.2 = noF ∨ ((a.2.2.2 = paidF ∨ a.2.2.2 = lostF) ∧ 1 ≤ a.2.1 ∧ a.2.1 < d)
theorem FO.up {d2 : Int} (h : FO A d) (hd : d ≤ d2) : FO A d2 := fun a ha => by
  rcases h a ha with h | ⟨h1, h2⟩
  · exact Or.inl h
  · exact Or.inr ⟨h1, by omega⟩
theorem FO.ev (h : FO A (d + 1)) (hd : 1 ≤ d) (he : e.2.2.1 = d) : FO (A.map (evA e)) (d + 1) := fun a ha => by
  obtain ⟨b, hb, rfl⟩ := List.mem_map.mp ha
  by_cases c : b.1 = e.2.1 ∧ b.2.2.2 = noF
  · unfold evA
    rw [if_pos c]
    split
    · exact Or.inr ⟨Or.inr rfl, by show 1 ≤ e.2.2.1 ∧ e.2.2.1 < d + 1; omega⟩
    · split
      · exact Or.inl c.2
      · split
        · exact Or.inl c.2
        · exact Or.inl c.2
  · rw [evA_off c]; exact h b hb
theorem FO.pay (h : FO A (d + 1)) (hd : 1 ≤ d) : FO (A.map (payA d)) (d + 1) := fun a ha => by
  obtain ⟨b, hb, rfl⟩ := List.mem_map.mp ha
  by_cases c : b.2.1 = d ∧ b.2.2.2 = noF
  · rw [payA_on c]
    exact Or.inr ⟨Or.inl rfl, by show 1 ≤ b.2.1 ∧ b.2.1 < d + 1; omega⟩
  · rw [payA_off c]; exact h b hb
theorem FO.none (h : FO A d) {f : Nm} (hf : f = paidF ∨ f = lostF) (n : Nm) : sm (pD f d n) A = 0 := sm_none fun a ha => by
  unfold pD
  rcases h a ha with h | ⟨h1, h2⟩
  · rw [h, decide_eq_false (p := noF = f) (hf.elim (fun q => by rw [q]; exact f_ne.1) fun q => by rw [q]; exact f_ne.2.1), Bool.and_false]
  · rw [decide_eq_false (p := a.2.1 = d) (by omega)]; simp
def DayI (names : List Nm) (A0 : List Am) (d : Int) (A : List Am) (s : PSn × LS) : Prop := Rel names A s.1 ∧ FO A (d + 1) ∧ (∀ n ∈ names, (lkN s.2 n).getD 0 = sm (pD lostF d n) A) ∧ ∀ f x m, (f = paidF ∨ f = lostF ∧ x ≠ d) → sm (pD f x m) A = sm (pD f x m) A0
theorem events_rel {A0 : List Am} (hd : 1 ≤ d) : ∀ (evs : List Ev) (A : List Am) (s : PSn × LS), (∀ e ∈ evs, WOk names e ∧ (e.1 = cod "late" → 1 ≤ e.2.2.2)) → DayI names A0 d A s → DayI names A0 d (fold1 (stepA d) evs A) (fold1 (evF d) evs s)
  | [], A, s, _, h => h
  | e :: evs, A, s, hw, ⟨h1, h2, h3, h4⟩ => by
    refine events_rel hd evs (stepA d e A) (evF d e s) (fun x hx => hw x (by simp [hx])) ?_
    obtain ⟨hwe, hke⟩ := hw e (by simp)
    unfold stepA evF
    by_cases c : e.2.2.1 = d
    · rw [if_pos c, if_pos c]
      obtain ⟨r1, r2⟩ := event_rel h1 hwe hke
      refine ⟨r1, h2.ev hd c, fun n hn => ?_, fun f x m hf => ?_⟩
      · show (lkN (putN s.2 e.2.1 ((lkN s.2 e.2.1).getD 0 + evR s.1 e)) n).getD 0 = _
        rw [lk_put, sm_ev]
        by_cases cn : n = e.2.1
        · rw [if_pos cn, cn]
          show (lkN s.2 e.2.1).getD 0 + evR s.1 e = _
          rw [r2, h3 _ hwe.2]
          by_cases cq : e.1 = cod "quit"
          · rw [if_pos cq]
            have := sm_or (p := pD lostF d e.2.1) (q := pN noF e.2.1) (r := fun a => pD lostF d e.2.1 (evA e a)) (fun a => by
              have := pL_quit (e := e) (a := a) cq
              rw [c] at this; exact this) (fun a ha => by
              unfold pD at ha
              unfold pN
              cases q : decide (a.2.2.2 = lostF)
              · rw [q, Bool.and_false] at ha; cases ha
              · rw [decide_eq_false (p := a.2.2.2 = noF) (by rw [of_decide_eq_true q]; exact fun z => f_ne.2.1 z.symm), Bool.and_false]) A
            exact this.symm
          · rw [if_neg cq, sm_congr (q := pD lostF d e.2.1) (fun a _ => pL_keep (Or.inl cq))]; omega
        · rw [if_neg cn, h3 n hn]
          exact (sm_congr fun a _ => pL_keep (Or.inr (Or.inr cn))).symm
      · rw [sm_ev, ← h4 f x m hf]
        rcases hf with rfl | ⟨rfl, hx⟩
        · exact sm_congr fun a _ => pP_keep
        · exact sm_congr fun a _ => pL_keep (Or.inr (Or.inl (by rw [c]; exact hx)))
    · rw [if_neg c, if_neg c]; exact ⟨h1, h2, h3, h4⟩
theorem names_day (lost : LS) : ∀ (l : List Nm) (ps : PSn) (p q : LS), l.Nodup → (∀ n ∈ l, n ∈ ps.map (·.1)) →
    ∃ ps2 : PSn, fold1 (nmF d lost) l (ps, p, q) = (ps2, p ++ (l.map fun n => (n, val (getL ps n) d)).filter (fun x => decide (0 < x.2)), q ++ (l.map fun n => (n, (lkN lost n).getD 0)).filter (fun x => decide (0 < x.2))) ∧ ps2.map (·.1) = ps.map (·.1) ∧ ∀ m, getL ps2 m = if m ∈ l then poN (getL ps m) d else getL ps m
  | [], ps, p, q, _, _ => ⟨ps, by simp [fold1], rfl, fun m => by simp⟩
  | n :: l, ps, p, q, hn, hm => by
    obtain ⟨n1, n2⟩ := List.nodup_cons.mp hn
    have hnk := hm n (by simp)
    obtain ⟨ps2, h1, h2, h3⟩ := names_day lost l (setS ps n (poN (getL ps n) d)) (if 0 < val (getL ps n) d then p ++ [(n, val (getL ps n) d)] else p) (if 0 < (lkN lost n).getD 0 then q ++ [(n, (lkN lost n).getD 0)] else q) n2 (fun x hx => by rw [setS_keys]; exact hm x (by simp [hx]))
    refine ⟨ps2, ?_, by rw [h2, setS_keys], fun m => ?_⟩
    · show fold1 (nmF d lost) l (nmF d lost n (ps, p, q)) = _
      refine Eq.trans h1 ?_
      have e1 : (l.map fun m => (m, val (getL (setS ps n (poN (getL ps n) d)) m) d)) = l.map fun m => (m, val (getL ps m) d) := List.map_congr_left fun m hm2 => by
        rw [get_set hnk, if_neg (fun z => n1 (by rw [← z]; exact hm2))]
      rw [e1, List.map_cons, List.map_cons, List.filter_cons, List.filter_cons]
      congr 2
      · by_cases c : 0 < val (getL ps n) d
        · rw [if_pos c, if_pos (by exact decide_eq_true c)]; simp
        · rw [if_neg c, if_neg (by simpa using c)]
      · by_cases c : 0 < (lkN lost n).getD 0
        · rw [if_pos c, if_pos (by exact decide_eq_true c)]; simp
        · rw [if_neg c, if_neg (by simpa using c)]
    · rw [h3, get_set hnk]
      by_cases c : m = n
      · subst c
        rw [if_neg n1, if_pos rfl, if_pos (by simp)]
      · rw [if_neg c]
        by_cases c2 : m ∈ l
        · rw [if_pos c2, if_pos (by simp [c2])]
        · rw [if_neg c2, if_neg (by simp [c, c2])]
def pairsS (names : List Nm) (A : List Am) (f : Nm) (d : Int) : LS := (names.map fun n => (n, sm (pD f d n) A)).filter fun x => decide (0 < x.2)
def dayA (evs : List Ev) (d : Int) (A : List Am) : List Am := (fold1 (stepA d) evs A).map (payA d)
theorem day_rel {evs : List Ev} (hN : names.Nodup) (hd : 1 ≤ d) (hw : ∀ e ∈ evs, WOk names e ∧ (e.1 = cod "late" → 1 ≤ e.2.2.2)) (R : Rel names A ps) (hF : FO A d) :
    Rel names (dayA evs d A) (oneD ps evs d).1 ∧ FO (dayA evs d A) (d + 1) ∧ (oneD ps evs d).2 = (pairsS names (dayA evs d A) paidF d, pairsS names (dayA evs d A) lostF d) ∧ ∀ f x m, (f = paidF ∨ f = lostF) → x < d → sm (pD f x m) (dayA evs d A) = sm (pD f x m) A := by
  obtain ⟨h1, h2, h3, h4⟩ := events_rel (A0 := A) hd evs A (ps, []) hw ⟨R, hF.up (by omega), fun n hn => by rw [hF.none (Or.inr rfl)]; rfl, fun _ _ _ _ => rfl⟩
  unfold oneD dayA
  generalize hs : fold1 (evF d) evs (ps, []) = s at h1 h3
  generalize hA : fold1 (stepA d) evs A = A1 at h1 h2 h3 h4
  obtain ⟨ps2, g1, g2, g3⟩ := names_day (d := d) s.2 names s.1 [] [] hN (fun n hn => by rw [h1.keys]; exact hn)
  have ek : ps.map (·.1) = names := R.keys
  rw [ek, g1]
  have hP : ∀ n, sm (pD paidF d n) A1 = 0 := fun n => by rw [h4 _ _ _ (Or.inl rfl)]; exact hF.none (Or.inl rfl) n
  refine ⟨⟨g2.trans h1.keys, fun n hn => ?_, fun n hn x => ?_, fun n hn => ?_, c_map (fun a => (payA_c d a).1) h1.c⟩, h2.pay hd, ?_, fun f x m hf hx => ?_⟩
  · rw [g3, if_pos hn]; exact nd_poN (h1.nd n hn)
  · rw [g3, if_pos hn, val_poN, sm_pay, sm_congr fun a _ => pD_pay]
    split
    · exact (sm_none fun _ _ => rfl).symm
    · exact h1.v n hn x
  · rw [g3, if_pos hn, sum_poN d (h1.nd n hn), h1.s n hn, h1.v n hn d, sm_pay]
    have := sm_or (p := fun a => pN noF n (payA d a)) (q := pD noF d n) (r := pN noF n) (fun a => pN_pay) (fun a => pN_pay2) A1
    omega
  · unfold pairsS
    simp only [List.nil_append]
    refine Prod.ext ?_ ?_
    · show List.filter _ _ = _
      congr 1
      refine List.map_congr_left fun n hn => ?_
      rw [h1.v n hn, sm_pay]
      have := sm_or (p := pD paidF d n) (q := pD noF d n) (r := fun a => pD paidF d n (payA d a)) (fun a => pP_pay) (fun a ha => by
        unfold pD at ha ⊢
        cases q : decide (a.2.2.2 = paidF)
        · rw [q, Bool.and_false] at ha; cases ha
        · rw [decide_eq_false (p := a.2.2.2 = noF) (by rw [of_decide_eq_true q]; exact fun z => f_ne.1 z.symm), Bool.and_false]) A1
      rw [this, hP]; simp
    · show List.filter _ _ = _
      congr 1
      refine List.map_congr_left fun n hn => ?_
      rw [h3 n hn, sm_pay]
      exact congrArg (Prod.mk n) (sm_congr fun a _ => pF_pay (Or.inl rfl)).symm
  · rw [sm_pay]
    have : sm (fun a => pD f x m (payA d a)) A1 = sm (pD f x m) A1 := sm_congr fun a _ => pF_pay (hf.elim (fun q => Or.inr ⟨q, by omega⟩) Or.inl)
    rw [this]
    exact h4 f x m (hf.elim Or.inl fun q => Or.inr ⟨q, by omega⟩)
theorem rngN_cons (lo : Int) (n : Nat) : rngN lo (n + 1) = lo :: rngN (lo + 1) n := by
  unfold rngN
  rw [List.range_succ_eq_map, List.map_cons, List.map_map]
  congr 1
  · omega
  · refine List.map_congr_left fun k _ => ?_
    show lo + ((k + 1 : Nat) : Int) = lo + 1 + (k : Int)
    omega
def walkA (evs : List Ev) (ds : List Int) (A : List Am) : List Am := fold1 (dayA evs) ds A
theorem days_rel {evs : List Ev} (hN : names.Nodup) (hw : ∀ e ∈ evs, WOk names e ∧ (e.1 = cod "late" → 1 ≤ e.2.2.2)) : ∀ (k : Nat) (lo : Int) (A : List Am) (ps : PSn), 1 ≤ lo → Rel names A ps → FO A lo →
    Rel names (walkA evs (rngN lo k) A) (daysS evs (rngN lo k) ps).2 ∧ FO (walkA evs (rngN lo k) A) (lo + k) ∧ (daysS evs (rngN lo k) ps).1 = (rngN lo k).map (fun d => (pairsS names (walkA evs (rngN lo k) A) paidF d, pairsS names (walkA evs (rngN lo k) A) lostF d)) ∧ ∀ f x m, (f = paidF ∨ f = lostF) → x < lo → sm (pD f x m) (walkA evs (rngN lo k) A) = sm (pD f x m) A
  | 0, lo, A, ps, h0, R, hF => ⟨R, by show FO A (lo + 0); rw [Int.add_zero]; exact hF, rfl, fun _ _ _ _ _ => rfl⟩
  | k + 1, lo, A, ps, h0, R, hF => by
    obtain ⟨d1, d2, d3, d4⟩ := day_rel hN h0 hw R hF
    obtain ⟨r1, r2, r3, r4⟩ := days_rel hN hw k (lo + 1) (dayA evs lo A) (oneD ps evs lo).1 (by omega) d1 d2
    rw [rngN_cons]
    show Rel names (walkA evs (rngN (lo + 1) k) (dayA evs lo A)) (daysS evs (rngN (lo + 1) k) (oneD ps evs lo).1).2 ∧ FO (walkA evs (rngN (lo + 1) k) (dayA evs lo A)) _ ∧ (oneD ps evs lo).2 :: (daysS evs (rngN (lo + 1) k) (oneD ps evs lo).1).1 = List.map (fun d => (pairsS names (walkA evs (rngN (lo + 1) k) (dayA evs lo A)) paidF d, pairsS names (walkA evs (rngN (lo + 1) k) (dayA evs lo A)) lostF d)) _ ∧ ∀ f x m, _ → _ → sm (pD f x m) (walkA evs (rngN (lo + 1) k) (dayA evs lo A)) = _
    generalize walkA evs (rngN (lo + 1) k) (dayA evs lo A) = A2 at r1 r2 r3 r4 ⊢
    refine ⟨r1, by rw [show lo + ((k + 1 : Nat) : Int) = lo + 1 + (k : Int) by omega]; exact r2, ?_, fun f x m hf hx => ?_⟩
    · rw [List.map_cons, r3, d3]
      congr 1
      unfold pairsS
      have : ∀ f, (f = paidF ∨ f = lostF) → (names.map fun n => (n, sm (pD f lo n) (dayA evs lo A))) = names.map fun n => (n, sm (pD f lo n) A2) := fun f hf => List.map_congr_left fun n _ => by rw [r4 f lo n hf (by omega)]
      rw [this _ (Or.inl rfl), this _ (Or.inr rfl)]
    · rw [r4 f x m hf (by omega), d4 f x m hf hx]
theorem left_rel (hN : names.Nodup) (R : Rel names A ps) : leftS ps = (names.map fun n => (n, sm (pN noF n) A)).filter fun x => decide (0 < x.2) := by
  unfold leftS
  congr 1
  rw [← R.keys, List.map_map]
  have hn : (ps.map (·.1)).Nodup := by rw [R.keys]; exact hN
  refine List.map_congr_left fun x hx => ?_
  have hx2 : x.1 ∈ names := by rw [← R.keys]; exact List.mem_map.mpr ⟨x, hx, rfl⟩
  have : getL ps x.1 = x.2 := by unfold getL; rw [lk_of hn (by exact hx)]; rfl
  show (x.1, sumL x.2) = (x.1, sm (pN noF x.1) A)
  rw [← R.s _ hx2, this]
end K15
namespace K15
open PySem PySem.Spec PyProof.Rows L2 DL
variable {names : List Nm} {A : List Am} {ps : PSn} {e : Ev} {d : Int} {n : Nm}
theorem sm_app (p : Am → Bool) : ∀ A B : List Am, sm p (A ++ B) = sm p A + sm p B
  | [], B => by show sm p B = 0 + _; omega
  | a :: A, B => by
    show (if p a = true then _ else _) + sm p (A ++ B) = ((if p a = true then _ else _) + sm p A) + _
    rw [sm_app p A B]; omega
def amsOf (n : Nm) (l : PLn) : List Am := l.map fun p => (n, p.1, p.2, noF)
def amS (bs : List Db) : List Am := (bs.map fun b => amsOf b.1 b.2.2).flatten
theorem sm_ams1 {l : PLn} (hn : (l.map (·.1)).Nodup) (n : Nm) (d : Int) : sm (pD noF d n) (amsOf n l) = val l d := by
  induction l with
  | nil => rfl
  | cons p l ih =>
    rw [List.map_cons] at hn
    obtain ⟨n1, n2⟩ := List.nodup_cons.mp hn
    rw [val_cons]
    show (if pD noF d n (n, p.1, p.2, noF) = true then p.2 else 0) + sm (pD noF d n) (amsOf n l) = _
    rw [ih n2]
    have e1 : pD noF d n (n, p.1, p.2, noF) = decide (p.1 = d) := by unfold pD; simp
    rw [e1]
    by_cases c : p.1 = d
    · rw [if_pos (decide_eq_true c), if_pos c, val_no (by rw [← c]; exact n1)]; omega
    · rw [if_neg (by simpa using c), if_neg c]; omega
theorem sm_ams2 (n : Nm) : ∀ l : PLn, sm (pN noF n) (amsOf n l) = sumL l
  | [] => rfl
  | p :: l => by
    rw [sumL_cons, ← sm_ams2 n l]
    show (if pN noF n (n, p.1, p.2, noF) = true then p.2 else 0) + _ = _
    rw [if_pos (by unfold pN; simp)]; rfl
theorem sm_ams0 {p : Am → Bool} {m : Nm} (hp : ∀ a, p a = true → a.1 = n) (h : m ≠ n) (l : PLn) : sm p (amsOf m l) = 0 := sm_none fun a ha => by
  obtain ⟨q, _, rfl⟩ := List.mem_map.mp ha
  cases c : p (m, q.1, q.2, noF)
  · rfl
  · exact absurd (hp _ c) h
theorem sm_ams {p : Am → Bool} (hp : ∀ a, p a = true → a.1 = n) : ∀ {bs : List Db}, (bs.map (·.1)).Nodup → n ∈ bs.map (·.1) → sm p (amS bs) = sm p (amsOf n (getL (psOf bs) n))
  | [], _, h => by cases h
  | b :: bs, hn, h => by
    rw [List.map_cons] at hn h
    obtain ⟨n1, n2⟩ := List.nodup_cons.mp hn
    have e1 : getL (psOf (b :: bs)) n = if b.1 = n then b.2.2 else getL (psOf bs) n := by
      unfold getL
      show (lkN ((b.1, b.2.2) :: psOf bs) n).getD [] = _
      rw [K15.lk_cons]
      split <;> rfl
    have e2 : sm p (amS (b :: bs)) = sm p (amsOf b.1 b.2.2) + sm p (amS bs) := by
      unfold amS; rw [List.map_cons, List.flatten_cons, sm_app]
    rw [e1, e2]
    by_cases c : b.1 = n
    · rw [if_pos c, c]
      have : sm p (amS bs) = 0 := sm_none fun a ha => by
        cases q : p a
        · rfl
        · exfalso
          have h1 := hp a q
          unfold amS at ha
          obtain ⟨l, hl, hal⟩ := List.mem_flatten.mp ha
          obtain ⟨b2, hb2, rfl⟩ := List.mem_map.mp hl
          obtain ⟨x, _, rfl⟩ := List.mem_map.mp hal
          exact n1 (List.mem_map.mpr ⟨b2, hb2, by rw [c]; exact h1⟩)
      rw [this]; omega
    · rw [if_neg c, sm_ams0 hp c]
      rcases List.mem_cons.mp h with q | h
      · exact absurd q.symm c
      · rw [sm_ams hp n2 h]; omega
theorem pD_nm {f : Nm} {a : Am} (h : pD f d n a = true) : a.1 = n := by
  unfold pD at h
  rw [Bool.and_eq_true, Bool.and_eq_true] at h
  exact of_decide_eq_true h.1.1
theorem pN_nm {f : Nm} {a : Am} (h : pN f n a = true) : a.1 = n := by
  unfold pN at h
  rw [Bool.and_eq_true] at h
  exact of_decide_eq_true h.1
structure BOk (bs : List Db) : Prop where
  nd : (bs.map (·.1)).Nodup
  len : bs.length ≤ 30
  pl : ∀ b ∈ bs, (b.2.2.map (·.1)).Nodup ∧ b.2.2.length ≤ 12 ∧ b.2.2 ≠ [] ∧ ∀ p ∈ b.2.2, (1 ≤ p.1 ∧ p.1 ≤ 60) ∧ 1 ≤ p.2 ∧ p.2 ≤ 1000000000000
theorem ps_nd {bs : List Db} (h : BOk bs) (hn : n ∈ bs.map (·.1)) : ((getL (psOf bs) n).map (·.1)).Nodup := by
  have e1 : (psOf bs).map (·.1) = bs.map (·.1) := by unfold psOf; rw [List.map_map]; rfl
  obtain ⟨l, hl⟩ := lk_some (ps := psOf bs) (by rw [e1]; exact hn)
  have e : getL (psOf bs) n = l := by unfold getL; rw [hl]; rfl
  rw [e]
  obtain ⟨b, hb, q⟩ := List.mem_map.mp (lk_mem' hl)
  cases q
  exact (h.pl b hb).1
theorem beg_rel {bs : List Db} (h : BOk bs) : Rel (bs.map (·.1)) (amS bs) (psOf bs) ∧ FO (amS bs) 1 := by
  refine ⟨⟨by unfold psOf; rw [List.map_map]; rfl, fun n hn => ps_nd h hn, fun n hn d => ?_, fun n hn => ?_, fun a ha => ?_⟩, fun a ha => ?_⟩
  · rw [sm_ams (fun a => pD_nm) h.nd hn, sm_ams1 (ps_nd h hn)]
  · rw [sm_ams (fun a => pN_nm) h.nd hn, sm_ams2]
  · unfold amS at ha
    obtain ⟨l, hl, hal⟩ := List.mem_flatten.mp ha
    obtain ⟨b2, hb2, rfl⟩ := List.mem_map.mp hl
    obtain ⟨x, hx, rfl⟩ := List.mem_map.mp hal
    exact ((h.pl b2 hb2).2.2.2 x hx).2.1
  · unfold amS at ha
    obtain ⟨l, hl, hal⟩ := List.mem_flatten.mp ha
    obtain ⟨b2, hb2, rfl⟩ := List.mem_map.mp hl
    obtain ⟨x, hx, rfl⟩ := List.mem_map.mp hal
    exact Or.inl rfl
def totL (n : Nm) (rows : LS) : Int := ((rows.filter fun x => decide (x.1 = n)).map (·.2)).sum
theorem tot_app (n : Nm) (a b : LS) : totL n (a ++ b) = totL n a + totL n b := by unfold totL; rw [List.filter_append, List.map_append, List.sum_append]
theorem tot_g {g : Nm → Int} : ∀ {l : List Nm}, l.Nodup → (∀ m ∈ l, 0 ≤ g m) → totL n ((l.map fun m => (m, g m)).filter fun x => decide (0 < x.2)) = if n ∈ l then g n else 0
  | [], _, _ => rfl
  | m :: l, hn, hg => by
    obtain ⟨n1, n2⟩ := List.nodup_cons.mp hn
    have ih := tot_g (g := g) n2 fun x hx => hg x (by simp [hx])
    have h0 := hg m (by simp)
    have e1 : totL n (((m :: l).map fun m => (m, g m)).filter fun x => decide (0 < x.2)) = (if m = n then g m else 0) + totL n ((l.map fun m => (m, g m)).filter fun x => decide (0 < x.2)) := by
      rw [List.map_cons, List.filter_cons]
      by_cases c : 0 < g m
      · rw [if_pos (by exact decide_eq_true c)]
        unfold totL
        rw [List.filter_cons]
        by_cases c2 : m = n
        · rw [if_pos (by exact decide_eq_true c2), if_pos c2, List.map_cons, List.sum_cons]
        · rw [if_neg (by simpa using c2), if_neg c2]; omega
      · rw [if_neg (by simpa using c)]
        split
        · omega
        · omega
    rw [e1, ih]
    by_cases c : m = n
    · rw [if_pos c, if_neg (by rw [← c]; exact n1), if_pos (by simp [c]), c]; omega
    · rw [if_neg c]
      by_cases c2 : n ∈ l
      · rw [if_pos c2, if_pos (by simp [c2])]; omega
      · rw [if_neg c2, if_neg (by rw [List.mem_cons, not_or]; exact ⟨fun z => c z.symm, c2⟩)]; omega
def pB (f n : Nm) (lo : Int) (k : Nat) (a : Am) : Bool := pN f n a && (decide (lo ≤ a.2.1) && decide (a.2.1 < lo + k))
theorem sum_days (f : Nm) : ∀ (k : Nat) (lo : Int), ((rngN lo k).map fun d => sm (pD f d n) A).sum = sm (pB f n lo k) A
  | 0, lo => (sm_none fun a _ => by unfold pB; rw [Bool.and_eq_false_iff]; right; rw [Bool.and_eq_false_iff]; by_cases c : lo ≤ a.2.1; exact Or.inr (decide_eq_false (by omega)); exact Or.inl (decide_eq_false c)).symm
  | k + 1, lo => by
    rw [rngN_cons, List.map_cons, List.sum_cons, sum_days f k (lo + 1)]
    refine (sm_or (fun a => ?_) (fun a ha => ?_) A).symm
    · unfold pB pD pN
      rw [Bool.eq_iff_iff]
      simp only [Bool.and_eq_true, Bool.or_eq_true, decide_eq_true_eq]
      constructor
      · rintro ⟨⟨h1, h2⟩, h3, h4⟩
        by_cases c : a.2.1 = lo
        · exact Or.inl ⟨⟨h1, c⟩, h2⟩
        · exact Or.inr ⟨⟨h1, h2⟩, by omega, by omega⟩
      · rintro (⟨⟨h1, c⟩, h2⟩ | ⟨⟨h1, h2⟩, h3, h4⟩)
        · exact ⟨⟨h1, h2⟩, by omega, by omega⟩
        · exact ⟨⟨h1, h2⟩, by omega, by omega⟩
    · unfold pD at ha
      unfold pB
      rw [Bool.and_eq_true, Bool.and_eq_true] at ha
      have := of_decide_eq_true ha.1.2
      rw [decide_eq_false (p := lo + 1 ≤ a.2.1) (by omega)]; simp
theorem sum_days1 {f : Nm} {k : Nat} (hF : FO A (1 + k)) (hf : f = paidF ∨ f = lostF) : ((rngN 1 k).map fun d => sm (pD f d n) A).sum = sm (pN f n) A := by
  rw [sum_days]
  refine sm_congr fun a ha => ?_
  unfold pB
  cases c : pN f n a
  · rfl
  · have c2 : a.2.2.2 = f := by
      unfold pN at c
      rw [Bool.and_eq_true] at c
      exact of_decide_eq_true c.2
    rcases hF a ha with h | ⟨_, h1, h2⟩
    · exfalso
      rw [h] at c2
      rcases hf with rfl | rfl
      · exact f_ne.1 c2
      · exact f_ne.2.1 c2
    · rw [decide_eq_true h1, decide_eq_true h2]; rfl
def pM (n : Nm) (a : Am) : Bool := decide (a.1 = n)
theorem three {D : Int} (hF : FO A D) : sm (pM n) A = sm (pN noF n) A + sm (pN paidF n) A + sm (pN lostF n) A := by
  have h1 := sm_or (p := pN noF n) (q := pN paidF n) (r := fun a => pN noF n a || pN paidF n a) (fun _ => rfl) (fun a ha => by
    unfold pN at ha ⊢
    rw [Bool.and_eq_true] at ha
    rw [decide_eq_false (p := a.2.2.2 = paidF) (by rw [of_decide_eq_true ha.2]; exact f_ne.1), Bool.and_false]) A
  have h2 := sm_or (p := fun a => pN noF n a || pN paidF n a) (q := pN lostF n) (r := fun a => pN noF n a || pN paidF n a || pN lostF n a) (fun _ => rfl) (fun a ha => by
    unfold pN at ha ⊢
    rw [Bool.or_eq_true, Bool.and_eq_true, Bool.and_eq_true] at ha
    have : a.2.2.2 ≠ lostF := by
      rcases ha with ⟨_, h⟩ | ⟨_, h⟩
      · rw [of_decide_eq_true h]; exact f_ne.2.1
      · rw [of_decide_eq_true h]; exact f_ne.2.2.1
    rw [decide_eq_false this, Bool.and_false]) A
  rw [← h1, ← h2]
  refine sm_congr fun a ha => ?_
  have : a.2.2.2 = noF ∨ a.2.2.2 = paidF ∨ a.2.2.2 = lostF := by
    rcases hF a ha with h | ⟨h | h, _⟩
    · exact Or.inl h
    · exact Or.inr (Or.inl h)
    · exact Or.inr (Or.inr h)
  unfold pM pN
  cases decide (a.1 = n)
  · rfl
  · rcases this with h | h | h <;> rw [h] <;> simp
theorem sm_walk (n : Nm) {evs : List Ev} : ∀ (ds : List Int) (A : List Am), sm (pM n) (walkA evs ds A) = sm (pM n) A
  | [], A => rfl
  | d :: ds, A => by
    show sm (pM n) (walkA evs ds (dayA evs d A)) = _
    rw [sm_walk n ds]
    unfold dayA
    rw [sm_pay]
    have e1 : ∀ A : List Am, sm (fun a => pM n (payA d a)) A = sm (pM n) A := fun A => sm_congr fun a _ => by unfold pM; rw [(payA_c d a).2]
    rw [e1]
    have go : ∀ (l : List Ev) (A : List Am), sm (pM n) (fold1 (stepA d) l A) = sm (pM n) A := by
      intro l
      induction l with
      | nil => intro A; rfl
      | cons e l ih =>
        intro A
        show sm (pM n) (fold1 (stepA d) l (stepA d e A)) = _
        rw [ih]
        unfold stepA
        split
        · rw [sm_ev]
          exact sm_congr fun a _ => by unfold pM; rw [(evA_c e a).2]
        · rfl
    exact go evs A
def rowsS (days : List (LS × LS)) (left : LS) : LS := fold1 (fun (p : LS × LS) s => s ++ p.1 ++ p.2) days left
theorem tot_rows (n : Nm) : ∀ (days : List (LS × LS)) (left : LS), totL n (rowsS days left) = totL n left + (days.map fun p => totL n p.1).sum + (days.map fun p => totL n p.2).sum
  | [], left => by show _ = _ + 0 + 0; rw [Int.add_zero, Int.add_zero]; rfl
  | p :: days, left => by
    show totL n (rowsS days (left ++ p.1 ++ p.2)) = _
    rw [tot_rows n days, tot_app, tot_app, List.map_cons, List.map_cons, List.sum_cons, List.sum_cons]; omega
theorem each_tot {bs : List Db} {evs : List Ev} (h : BOk bs) (hw : ∀ e ∈ evs, WOk (bs.map (·.1)) e ∧ (e.1 = cod "late" → 1 ≤ e.2.2.2)) (k : Nat) {b : Db} (hb : b ∈ bs) :
    totL b.1 (rowsS (daysS evs (rngN 1 k) (psOf bs)).1 (leftS (daysS evs (rngN 1 k) (psOf bs)).2)) = sumL b.2.2 := by
  obtain ⟨R0, F0⟩ := beg_rel h
  obtain ⟨R, F, hd, _⟩ := days_rel h.nd hw k 1 _ _ (by omega) R0 F0
  have hn : b.1 ∈ bs.map (·.1) := List.mem_map.mpr ⟨b, hb, rfl⟩
  have hm := sm_walk b.1 (evs := evs) (rngN 1 k) (amS bs)
  rw [tot_rows, left_rel h.nd R, hd]
  generalize walkA evs (rngN 1 k) (amS bs) = A at R F hm ⊢
  have g0 := fun (p : Am → Bool) => (sm_pos (p := p) R.c).1
  rw [tot_g (g := fun n => sm (pN noF n) A) h.nd (fun m _ => g0 _), if_pos hn, List.map_map, List.map_map]
  have e1 : ∀ f : Nm, (f = paidF ∨ f = lostF) → ((rngN 1 k).map fun d => totL b.1 (pairsS (bs.map (·.1)) A f d)).sum = sm (pN f b.1) A := fun f hf => by
    rw [← sum_days1 F hf]
    congr 1
    refine List.map_congr_left fun d _ => ?_
    unfold pairsS
    rw [tot_g (g := fun n => sm (pD f d n) A) h.nd (fun m _ => g0 _), if_pos hn]
  have e2 := e1 _ (Or.inl rfl)
  have e3 := e1 _ (Or.inr rfl)
  show sm (pN noF b.1) A + ((rngN 1 k).map fun d => totL b.1 (pairsS (bs.map (·.1)) A paidF d)).sum + ((rngN 1 k).map fun d => totL b.1 (pairsS (bs.map (·.1)) A lostF d)).sum = _
  rw [e2, e3, ← three F, hm, sm_ams (p := pM b.1) (fun a ha => of_decide_eq_true ha) h.nd hn]
  have e4 : getL (psOf bs) b.1 = b.2.2 := by
    unfold getL
    have : ((psOf bs).map (·.1)).Nodup := by unfold psOf; rw [List.map_map]; exact h.nd
    rw [lk_of this (List.mem_map.mpr ⟨b, hb, rfl⟩ : (b.1, b.2.2) ∈ psOf bs)]; rfl
  rw [e4, ← sm_ams2 b.1]
  refine sm_congr fun a ha => ?_
  obtain ⟨q, _, rfl⟩ := List.mem_map.mp ha
  unfold pM pN
  simp
end K15
namespace K15
open PySem PySem.Spec PyProof.Rows L2 DL
variable {names : List Nm} {A : List Am} {e : Ev} {d : Int} {n : Nm}
theorem evD_w (e : Ev) : ixD (evD e) 0 = some (eS e.1) := by
  unfold evD
  split
  · rename_i h; rw [h]; rfl
  · rfl
theorem evD_k (h : e.1 = cod "late") : ixD (evD e) 3 = some (.int e.2.2.2) := by unfold evD; rw [if_pos h]; rfl
theorem event_eq (A : List Am) (hw : e.1 = cod "late" ∨ e.1 = cod "early" ∨ e.1 = cod "quit") : n_law_event A (evD e) = some (A.map (evA e)) := by
  have h0 : noF = cod "" := rfl
  obtain ⟨_, _, _, q1, q2, q3⟩ := f_ne
  unfold n_law_event
  rw [mapO_eq (g := evA e) fun a ha => ?_]
  · rfl
  rw [evD_nm, evD_w, evD_day, bindS, show eqQ (eS a.1) (eS e.2.1) = some (decide (a.1 = e.2.1)) from eqQ_g, bindS]
  by_cases c1 : a.1 = e.2.1
  · by_cases c2 : a.2.2.2 = cod ""
    · rw [if_neg (by rw [decide_eq_true c1, decide_eq_true c2]; decide), bindS, show eqQ (eS e.1) (eS (cod "quit")) = some (decide (e.1 = cod "quit")) from eqQ_g, bindS]
      have hE : evA e a = (if e.1 = cod "quit" then (a.1, e.2.2.1, a.2.2.1, lostF) else if e.1 = cod "early" then (a.1, e.2.2.1, a.2.2.1, a.2.2.2) else if a.2.1 = e.2.2.1 then (a.1, e.2.2.1 + e.2.2.2, a.2.2.1, a.2.2.2) else a) := if_pos ⟨c1, c2⟩
      rw [hE]
      by_cases c3 : e.1 = cod "quit"
      · rw [if_pos (decide_eq_true c3), if_pos c3]; rfl
      · rw [if_neg (by simpa using c3), if_neg c3, bindS, show eqQ (eS e.1) (eS (cod "early")) = some (decide (e.1 = cod "early")) from eqQ_g, bindS]
        by_cases c4 : e.1 = cod "early"
        · rw [if_pos (decide_eq_true c4), if_pos c4]; rfl
        · have c5 : e.1 = cod "late" := hw.elim id fun h => h.elim (fun q => absurd q c4) fun q => absurd q c3
          rw [if_neg (by simpa using c4), if_neg c4, bindS, eqQ_i, bindS]
          by_cases c6 : a.2.1 = e.2.2.1
          · rw [if_pos (decide_eq_true c6), if_pos c6, evD_k c5]; rfl
          · rw [if_neg (by simpa using c6), if_neg c6]
    · rw [if_pos (by rw [decide_eq_false c2]; simp), evA_off (fun z => c2 z.2)]
  · rw [if_pos (by rw [decide_eq_false c1]; rfl), evA_off (fun z => c1 z.1)]
theorem walked_eq {evs : List Ev} (A : List Am) (hw : ∀ e ∈ evs, e.1 = cod "late" ∨ e.1 = cod "early" ∨ e.1 = cod "quit") {many : Int} (hm : 0 ≤ many ∧ many ≤ 1000) : n_law_walked A (evs.map evD) many = some (walkA evs (rngN 1 many.toNat) A) := by
  unfold n_law_walked
  rw [rng2_eq (by omega) (by omega) (by omega) (by omega), bindS, show (many + 1 - 1).toNat = many.toNat by congr 1; omega]
  have ev1 : ∀ (d : Int) (l : List Ev), (∀ e ∈ l, e ∈ evs) → ∀ A : List Am, fold (fun (x7 : D) (s6 : (List (Nm × Int × Int × Nm))) => (ixD x7 (2 : Int)).bind fun x9 => (eqQ x9 (D.int d)).bind fun x10 => (if x10 = true then ((n_law_event s6 x7).bind fun x11 => some x11) else (some s6))) (l.map evD) A = some (fold1 (stepA d) l A) := by
    intro d l
    induction l with
    | nil => intro _ A; rfl
    | cons e l ih =>
      intro hl A
      have hb : ((ixD (evD e) (2 : Int)).bind fun x9 => (eqQ x9 (D.int d)).bind fun x10 => (if x10 = true then ((n_law_event A (evD e)).bind fun x11 => some x11) else (some A))) = some (stepA d e A) := by
        rw [evD_day, bindS, eqQ_i, bindS]
        unfold stepA
        by_cases c : e.2.2.1 = d
        · rw [if_pos (decide_eq_true c), if_pos c, event_eq A (hw e (hl e (by simp)))]; rfl
        · rw [if_neg (by simpa using c), if_neg c]
      rw [List.map_cons]
      show (Option.bind _ _).bind _ = _
      rw [hb]
      exact ih (fun x hx => hl x (by simp [hx])) _
  have go : ∀ (ds : List Int) (A : List Am), fold (fun (x3 : Int) (s2 : (List (Nm × Int × Int × Nm))) =>
      (fold (fun (x7 : D) (s6 : (List (Nm × Int × Int × Nm))) =>
      (ixD x7 (2 : Int)).bind fun x9 =>
      (eqQ x9 (D.int x3)).bind fun x10 =>
      (if x10 = true then
      ((n_law_event s6 x7).bind fun x11 =>
      some x11)
      else (some s6))) (evs.map evD) s2).bind fun s12 =>
      (mapO (fun (x13 : Nm × Int × Int × Nm) =>
      (if ((decide (x13.2.1 = x3)) && (decide (x13.2.2.2 = (cod "")))) = true then
      (some (x13.1, x13.2.1, x13.2.2.1, (cod "paid")))
      else (some x13))) s12).bind fun s14 =>
      some s14) ds A = some (walkA evs ds A) := by
    intro ds
    induction ds with
    | nil => intro A; rfl
    | cons d ds ih =>
      intro A
      show (Option.bind _ _).bind _ = _
      rw [ev1 d evs (fun e h => h), bindS, mapO_eq (g := payA d) fun a ha => ?_]
      · exact ih (dayA evs d A)
      · unfold payA
        by_cases c : a.2.1 = d ∧ a.2.2.2 = noF
        · rw [if_pos c, if_pos (by rw [Bool.and_eq_true]; exact ⟨decide_eq_true c.1, decide_eq_true c.2⟩)]; rfl
        · rw [if_neg c, if_neg (by rw [Bool.and_eq_true]; rintro ⟨h1, h2⟩; exact c ⟨of_decide_eq_true h1, of_decide_eq_true h2⟩)]
  rw [go]; rfl
theorem ams_len : ∀ {bs : List Db}, (∀ b ∈ bs, b.2.2.length ≤ 12) → (amS bs).length ≤ 12 * bs.length
  | [], _ => by simp [amS]
  | b :: bs, h => by
    have ih := ams_len (bs := bs) fun x hx => h x (by simp [hx])
    have h1 := h b (by simp)
    unfold amS at ih ⊢
    rw [List.map_cons, List.flatten_cons, List.length_append, List.length_cons]
    unfold amsOf
    rw [List.length_map]
    unfold amsOf at ih
    omega
theorem amounts_eq {bs : List Db} (h : BOk bs) : n_law_amounts bs = some (amS bs) := by
  unfold n_law_amounts
  refine ok_fin (ok_bind (ok_fold0 (I := fun done s => s = amS done) rfl fun pre x post s hp hi => ?_) fun s hs => ok_some hs)
  subst hi
  have hx : x ∈ bs := by rw [hp]; simp
  have h1 : (amS pre).length ≤ 12 * pre.length := ams_len fun b hb => (h.pl b (by rw [hp]; simp [hb])).2.1
  have h2 := congrArg List.length hp
  rw [List.length_append] at h2
  have h3 := h.len
  have h4 := (h.pl x hx).2.1
  refine ok_eq (compT_eq (by omega)) (ok_eq (extL_eq (by rw [List.length_map]; omega)) (ok_some ?_))
  unfold amS
  rw [List.map_append, List.flatten_append, List.map_cons, List.map_nil, List.flatten_cons, List.flatten_nil, List.append_nil]; rfl
def keyA (a : Am) : TSIS := (a.2.2.2, (if a.2.2.2 = noF then 0 else a.2.1), a.1)
def keyQ (k : TSIS) (a : Am) : Bool := decide (keyA a = k)
theorem walk_len {evs : List Ev} : ∀ (ds : List Int) (A : List Am), (walkA evs ds A).length = A.length
  | [], A => rfl
  | d :: ds, A => by
    show (walkA evs ds (dayA evs d A)).length = _
    rw [walk_len ds]
    unfold dayA
    rw [List.length_map]
    have go : ∀ (l : List Ev) (A : List Am), (fold1 (stepA d) l A).length = A.length := by
      intro l
      induction l with
      | nil => intro A; rfl
      | cons e l ih =>
        intro A
        show (fold1 (stepA d) l (stepA d e A)).length = _
        rw [ih]
        unfold stepA
        split
        · rw [List.length_map]
        · rfl
    exact go evs A
theorem sums_ok (A : List Am) (hl : A.length ≤ 100000) : Ok (n_law_sums A) fun kv => ∀ k, lkN kv k = if A.any (keyQ k) = true then some (sm (keyQ k) A) else none := by
  unfold n_law_sums
  refine ok_bind (ok_fold0 (I := fun done s => s.length ≤ done.length ∧ ∀ k, lkN s k = if done.any (keyQ k) = true then some (sm (keyQ k) done) else none) ⟨Nat.le_refl _, fun k => rfl⟩ fun pre x post s hp hi => ?_) fun s hs => ok_some hs.2
  obtain ⟨i1, i2⟩ := hi
  have h2 := congrArg List.length hp
  rw [List.length_append, List.length_cons] at h2
  have e1 : (if decide (x.2.2.2 = cod "") = true then some (0 : Int) else some x.2.1) = some (keyA x).2.1 := by
    show _ = some (if x.2.2.2 = noF then 0 else x.2.1)
    by_cases c : x.2.2.2 = noF
    · rw [if_pos (decide_eq_true (show x.2.2.2 = cod "" from c)), if_pos c]
    · rw [if_neg (fun z => c (show x.2.2.2 = cod "" from of_decide_eq_true z)), if_neg c]
  refine ok_eq e1 ?_
  refine ok_eq (if_pos (by omega)) (ok_some ⟨?_, fun k => ?_⟩)
  · have := putN_le s ((keyA x)) (((lkN s (keyA x)).getD 0) + x.2.2.1)
    rw [List.length_append, List.length_singleton]
    exact Nat.le_trans this (by omega)
  · show lkN (putN s (keyA x) (((lkN s (keyA x)).getD 0) + x.2.2.1)) k = _
    rw [lk_put, List.any_append, sm_app, i2, i2]
    have e2 : [x].any (keyQ k) = keyQ k x := by simp
    have e3 : sm (keyQ k) [x] = if keyQ k x = true then x.2.2.1 else 0 := by show _ + (0 : Int) = _; omega
    rw [e2, e3]
    by_cases c : k = keyA x
    · have ck : keyQ k x = true := decide_eq_true c.symm
      rw [if_pos c, ck, Bool.or_true, if_pos rfl, if_pos rfl, ← c]
      congr 1
      congr 1
      cases q : pre.any (keyQ k)
      · rw [if_neg (by decide)]
        have : sm (keyQ k) pre = 0 := sm_none fun a ha => by
          rw [List.any_eq_false] at q
          have := q a ha
          cases z : keyQ k a
          · rfl
          · exact absurd z this
        rw [this]; rfl
      · rw [if_pos rfl]; rfl
    · have ck : keyQ k x = false := decide_eq_false fun z => c z.symm
      rw [if_neg c, ck, Bool.or_false]
      cases pre.any (keyQ k) <;> simp
theorem pairs_eq {bs : List Db} (hbl : bs.length ≤ 1000) {kv : List (TSIS × Int)} {f : Nm} {d : Int} {g : Nm → Int} (hk : ∀ n, lkN kv (f, d, n) = if 0 < g n then some (g n) else none) : n_law_pairs kv f d bs = some (((bs.map (·.1)).map fun n => (n, g n)).filter fun x => decide (0 < x.2)) := by
  unfold n_law_pairs
  refine ok_fin (ok_bind (ok_fold0 (I := fun done s => s = ((done.map (·.1)).map fun n => (n, g n)).filter fun x => decide (0 < x.2)) rfl fun pre x post s hp hi => ?_) fun s hs => ok_some hs)
  subst hi
  have h2 := congrArg List.length hp
  rw [List.length_append, List.length_cons] at h2
  have hl : (((pre.map (·.1)).map fun n => (n, g n)).filter fun x => decide (0 < x.2)).length ≤ pre.length := by
    refine Nat.le_trans (List.length_filter_le _ _) ?_
    rw [List.length_map, List.length_map]; exact Nat.le_refl _
  rw [hk]
  by_cases c : 0 < g x.1
  · rw [if_pos c]
    refine ⟨((((pre.map (·.1)).map fun n => (n, g n)).filter fun x => decide (0 < x.2)) ++ [(x.1, g x.1)]), ?_, ?_⟩
    · rw [if_pos (show (some (g x.1)).isSome = true from rfl), bindS, push_eq (by omega)]; rfl
    · rw [List.map_append, List.map_append, List.filter_append]
      congr 1
      show [(x.1, g x.1)] = List.filter _ [(x.1, g x.1)]
      rw [List.filter_cons_of_pos (by exact decide_eq_true c)]; rfl
  · rw [if_neg c]
    refine ok_some ?_
    rw [List.map_append, List.map_append, List.filter_append]
    show _ = _ ++ List.filter _ [(x.1, g x.1)]
    rw [List.filter_cons_of_neg (by simpa using c)]; simp
theorem key_D {f : Nm} (hf : f ≠ noF) (a : Am) : keyQ (f, d, n) a = pD f d n a := by
  unfold keyQ keyA pD
  rw [Bool.eq_iff_iff]
  simp only [Bool.and_eq_true, decide_eq_true_eq, Prod.mk.injEq]
  constructor
  · rintro ⟨h1, h2, h3⟩
    rw [h1, if_neg hf] at h2
    exact ⟨⟨h3, h2⟩, h1⟩
  · rintro ⟨⟨h1, h2⟩, h3⟩
    exact ⟨h3, by rw [h3, if_neg hf]; exact h2, h1⟩
theorem key_N (a : Am) : keyQ (noF, 0, n) a = pN noF n a := by
  unfold keyQ keyA pN
  rw [Bool.eq_iff_iff]
  simp only [Bool.and_eq_true, decide_eq_true_eq, Prod.mk.injEq]
  constructor
  · rintro ⟨h1, h2, h3⟩; exact ⟨h3, h1⟩
  · rintro ⟨h1, h2⟩; exact ⟨h2, by rw [if_pos h2], h1⟩
theorem key_look {p : Am → Bool} {k : TSIS} (hp : ∀ a, keyQ k a = p a) (hc : ∀ a ∈ A, 1 ≤ a.2.2.1) : (if A.any (keyQ k) = true then some (sm (keyQ k) A) else none) = if 0 < sm p A then some (sm p A) else none := by
  have e1 : keyQ k = p := funext hp
  rw [e1]
  have h := (sm_pos (p := p) hc).2
  by_cases c : 0 < sm p A
  · rw [if_pos c, if_pos (List.any_eq_true.mpr (h.mp c))]
  · rw [if_neg c, if_neg (fun z => c (h.mpr (List.any_eq_true.mp z)))]
end K15
namespace K15
open PySem PySem.Spec PyProof.Rows L2 DL
open FA (Low L25 L20 L25_low L20_low L20_inj ixS_ok getD_mem join1 nameF nameF_low rngN_pre)
theorem mixed_ok (c k : Int) (hk : 0 ≤ k ∧ k ≤ 100000) : Ok (n_law_mixed c k) fun x => 0 ≤ x ∧ x < 2147483647 := FA.mixed_ok c k hk
theorem coins_ok (c w m : Int) (hw : 0 ≤ w ∧ w ≤ 2147483647) (hm : 7 ≤ m ∧ m ≤ 1000000000000) : Ok (n_law_coins c w m) fun x => 1 ≤ x ∧ x ≤ m := FA.coins_ok c w m hw hm
theorem cell_ok (s : List Int) (k : Int) (hk : 0 ≤ k) : Ok (n_law_cell s k) fun _ => True := by
  unfold n_law_cell
  exact ok_dite (fun h => ok_bind (ok_atI (R := fun _ => True) hk h fun _ _ => trivial) fun x _ => ok_some trivial) fun _ => ok_some trivial
def nameG (b size at' at2 : Nat) (f g : Int) (k : Int) : Nm := nameF b size at' at2 f (L20.getD ((g + k / 20) % 20).toNat 0) k
theorem nameG_inj {b size at' at2 : Nat} {f g : Int} {i j : Int} (h1 : at' < size) (h3 : at2 < size) (h2 : at' ≠ at2) (hi : 0 ≤ i ∧ i < 400) (hj : 0 ≤ j ∧ j < 400) (h : nameG b size at' at2 f g i = nameG b size at' at2 f g j) : i = j := by
  unfold nameG nameF at h
  have e1 := congrArg (fun l : Nm => l[at']?) h
  have e2 := congrArg (fun l : Nm => l[at2]?) h
  have hl : at' < (List.replicate size b).length := by rw [List.length_replicate]; exact h1
  have hl2 : ∀ y, at2 < ((List.replicate size b).set at' y).length := fun y => by rw [List.length_set, List.length_replicate]; exact h3
  simp only [List.getElem?_set_ne (Ne.symm h2), List.getElem?_set_self hl] at e1
  simp only [List.getElem?_set_self (hl2 _)] at e2
  have e1 := L20_inj _ (by omega) _ (by omega) (Option.some.inj e1)
  have e2 := L20_inj _ (by omega) _ (by omega) (Option.some.inj e2)
  omega
theorem names_ok (c : Int) : Ok (n_law_names c 30) fun N => N.length = 30 ∧ N.Nodup ∧ ∀ n ∈ N, Low n := by
  unfold n_law_names
  refine ok_bind (mixed_ok c 3 (by omega)) fun m hm2 => ?_
  refine ok_eq (ixS_ok (l := L25) (by rw [L25_low.1]; omega) (Int.emod_nonneg _ (by omega)) (by rw [L25_low.1]; exact Int.emod_lt_of_pos _ (by omega))) ?_
  have hb : 97 ≤ L25.getD (m % 25).toNat 0 ∧ L25.getD (m % 25).toNat 0 ≤ 122 := L25_low.2 _ (getD_mem (by rw [L25_low.1]; omega))
  generalize L25.getD (m % 25).toNat 0 = b at hb
  refine ok_ite (fun h => absurd h (by rw [decide_eq_false (p := (30 : Int) < 9) (by omega), Bool.and_false]; decide)) (fun _ => ?_)
  have z0 := Int.emod_nonneg (m / 75) (show (7 : Int) ≠ 0 by omega)
  have z1 := Int.emod_lt_of_pos (m / 75) (show (0 : Int) < 7 by omega)
  obtain ⟨size, hsz⟩ : ∃ size : Nat, 2 + m / 75 % 7 = (size : Int) := ⟨(2 + m / 75 % 7).toNat, by omega⟩
  rw [hsz]
  have hs2 : 2 ≤ size ∧ size ≤ 8 := by omega
  refine ok_eq (modN_eq (by omega)) ?_
  have t0 := Int.emod_nonneg (m / 525) (show (size : Int) ≠ 0 by omega)
  have t1 := Int.emod_lt_of_pos (m / 525) (show (0 : Int) < size by omega)
  obtain ⟨at', hat⟩ : ∃ a : Nat, m / 525 % (size : Int) = (a : Int) := ⟨(m / 525 % (size : Int)).toNat, by omega⟩
  rw [hat] at t0 t1 ⊢
  obtain ⟨at2, hat2⟩ : ∃ a : Nat, ((at' : Int) + 1) % (size : Int) = (a : Int) := ⟨(((at' : Int) + 1) % (size : Int)).toNat, by have := Int.emod_nonneg ((at' : Int) + 1) (show (size : Int) ≠ 0 by omega); omega⟩
  have u1 := Int.emod_lt_of_pos ((at' : Int) + 1) (show (0 : Int) < size by omega)
  have hne : at' ≠ at2 := by
    intro e
    subst e
    by_cases h : (at' : Int) + 1 < size
    · rw [Int.emod_eq_of_lt (by omega) h] at hat2; omega
    · have : (at' : Int) + 1 = size := by omega
      rw [this, Int.emod_self] at hat2; omega
  refine ok_eq (rng1_eq (by omega) (by omega)) ?_
  refine ok_bind (ok_fold0 (I := fun done s => s = done.map (nameG b size at' at2 (m / 4200) (m / 84000))) rfl fun pre x post s hp hi => ?_) fun s hs => ?_
  · obtain ⟨hx, hlt⟩ := rngN_pre hp
    subst hi
    refine ok_eq (rng1_eq (by omega) (by omega)) ?_
    refine ok_eq (compT_eq (by rw [rngN_len]; omega)) ?_
    have e0 : (rngN 0 (size : Int).toNat).map (fun (_ : Int) => [b]) = (List.replicate size b).map fun c => [c] := by
      rw [List.map_replicate]
      refine List.eq_replicate_iff.mpr ⟨by rw [List.length_map, rngN_len]; omega, fun y hy => ?_⟩
      obtain ⟨_, _, rfl⟩ := List.mem_map.mp hy; rfl
    rw [e0]
    refine ok_eq (ixS_ok (l := L20) (by rw [L20_low.1]; omega) (Int.emod_nonneg _ (by omega)) (by rw [L20_low.1]; exact Int.emod_lt_of_pos _ (by omega))) ?_
    have putS : ∀ (l : List Nat) (i c : Nat), i < l.length → putI (l.map fun c => [c]) (i : Int) [c] = some ((l.set i c).map fun c => [c]) := fun l i c hi => by
      unfold putI
      rw [List.length_map, show ixN l.length (i : Int) = some i from by unfold ixN; rw [if_pos (by omega), if_pos (by omega)]; rfl]
      show some _ = _
      rw [List.map_set]
    refine ok_eq (putS _ at' _ (by rw [List.length_replicate]; omega)) ?_
    refine ok_eq (ixS_ok (l := L20) (by rw [L20_low.1]; omega) (Int.emod_nonneg _ (by omega)) (by rw [L20_low.1]; exact Int.emod_lt_of_pos _ (by omega))) ?_
    refine ok_eq (modN_eq (by omega)) ?_
    rw [hat2]
    refine ok_eq (putS _ at2 _ (by rw [List.length_set, List.length_replicate]; omega)) ?_
    refine ok_eq (join1 (by rw [List.length_set, List.length_set, List.length_replicate]; omega)) ?_
    have hl30 := congrArg List.length hp
    rw [rngN_len, List.length_append] at hl30
    exact ok_eq (push_eq (by rw [List.length_map]; omega)) (ok_some (by rw [List.map_append]; rfl))
  · subst hs
    refine ok_some ⟨by rw [List.length_map, rngN_len]; rfl, ?_, fun n hn => ?_⟩
    · rw [List.Nodup, List.pairwise_map]
      unfold rngN
      rw [List.pairwise_map]
      refine List.Pairwise.imp_of_mem (fun {u v} hu hv hne2 e => ?_) (List.nodup_range (n := (30 : Int).toNat))
      have h1 := List.mem_range.mp hu
      have h2 := List.mem_range.mp hv
      have h30 : (30 : Int).toNat = 30 := rfl
      have := nameG_inj (by omega) (by omega) hne (by omega) (by omega) e
      omega
    · obtain ⟨k, hk, rfl⟩ := List.mem_map.mp hn
      exact nameF_low hb (L20_low.2 _ (getD_mem (by rw [L20_low.1]; omega)))
def PlF (l : PLn) : Prop := (l.map (·.1)).Nodup ∧ l.length ≤ 12 ∧ l ≠ [] ∧ ∀ p ∈ l, (1 ≤ p.1 ∧ p.1 ≤ 60) ∧ 1 ≤ p.2 ∧ p.2 ≤ 1000000000000
theorem ok_foldB {α σ ρ : Type} {f : α → σ → Option (Lp σ ρ)} (I : List α → σ → Prop) (J : σ → Prop) : ∀ (xs done : List α) (s : σ), I done s → (∀ pre x post s, done ++ xs = pre ++ x :: post → I pre s → Ok (f x s) fun o => match o with | .nx s2 => I (pre ++ [x]) s2 | .bk s2 => J s2 | .rt _ => False) → (∀ s, I (done ++ xs) s → J s) → Ok (foldB f xs s) fun o => ∃ s2, o = .nx s2 ∧ J s2
  | [], done, s, h, _, hj => ok_some ⟨s, rfl, hj s (by simpa using h)⟩
  | x :: xs, done, s, h, hs, hj => by
    refine ok_bind (hs done x xs s rfl h) fun o ho => ?_
    cases o with
    | nx s2 => exact ok_foldB I J xs (done ++ [x]) s2 ho (fun pre y post s e => hs pre y post s (by rw [← e]; simp)) (fun s h => hj s (by simpa using h))
    | bk s2 => exact ok_some ⟨s2, rfl, ho⟩
    | rt r => exact ho.elim
theorem atI3 {x : Int} (h : 0 ≤ x ∧ x < 3) : Ok (atI [(5 : Int), 12, 1] x) fun m => 1 ≤ m ∧ m ≤ 12 := ok_atI h.1 h.2 fun y hy => by
  simp only [List.mem_cons, List.not_mem_nil, or_false] at hy
  rcases hy with rfl | rfl | rfl <;> omega
theorem plan_ok (c k : Int) (hk : 0 ≤ k ∧ k ≤ 1000) : Ok (n_law_plan c k) PlF := by
  unfold n_law_plan
  refine ok_bind (mixed_ok c (k + 20) (by omega)) fun m hm => ?_
  have go : ∀ M : Int, 1 ≤ M ∧ M ≤ 12 → Ok ((rng1 M).bind fun x5 =>
      (foldB (ρ := List TII) (fun (x7 : Int) (s6 : (List TII) × Int) =>
      (n_law_mixed c (((40 : Int) + ((13 : Int) * k)) + x7)).bind fun x10 =>
      (n_law_mixed c k).bind fun x11 =>
      (atI [(5 : Int), (12 : Int), (1 : Int)] (x11 % (3 : Int))).bind fun x12 =>
      (modN x10 x12).bind fun x13 =>
      (if (decide ((60 : Int) < ((s6.2 + (1 : Int)) + x13))) = true then
      (some (Lp.bk (s6.1, ((s6.2 + (1 : Int)) + x13))))
      else ((n_law_coins (c + x7) ((x10 / (60 : Int)) % (1009 : Int)) (1000000000000 : Int)).bind fun x14 =>
      (push s6.1 (((s6.2 + (1 : Int)) + x13), x14)).bind fun x15 =>
      some (Lp.nx (x15, ((s6.2 + (1 : Int)) + x13)))))) x5 (([] : List TII), (0 : Int))).bind (lpK (fun s16 =>
      some s16.1) (fun r => some r))) PlF := fun M hM => by
    refine ok_eq (rng1_eq (by omega) (by omega)) ?_
    refine ok_bind (ok_foldB (I := fun done s => s.1.length = done.length ∧ (0 ≤ s.2 ∧ s.2 ≤ 60) ∧ (s.1 = [] → s.2 = 0) ∧ (s.1.map (·.1)).Nodup ∧ ∀ p ∈ s.1, ((1 ≤ p.1 ∧ p.1 ≤ 60) ∧ p.1 ≤ s.2) ∧ 1 ≤ p.2 ∧ p.2 ≤ 1000000000000) (J := fun s => PlF s.1) _ [] ([], 0) ⟨rfl, by omega, fun _ => rfl, by simp, by simp⟩ (fun pre x post s hp hi => ?_) fun s hi => ?_) fun o ho => ?_
    · rw [List.nil_append] at hp
      obtain ⟨hx, hlt⟩ := rngN_pre hp
      obtain ⟨i1, i2, i3, i4, i5⟩ := hi
      refine ok_bind (mixed_ok c _ (by omega)) fun x10 h10 => ?_
      refine ok_bind (mixed_ok c _ (by omega)) fun x11 h11 => ?_
      refine ok_bind (atI3 (by have := Int.emod_nonneg x11 (show (3 : Int) ≠ 0 by omega); have := Int.emod_lt_of_pos x11 (show (0 : Int) < 3 by omega); omega)) fun x12 h12 => ?_
      refine ok_bind (ok_mod (by omega)) fun x13 h13 => ?_
      have hl : s.1.length ≤ 12 := by rw [i1]; omega
      refine ok_dite (fun hc => ok_some ⟨i4, hl, fun z => ?_, fun p hp => ⟨(i5 p hp).1.1, (i5 p hp).2⟩⟩) fun hc => ?_
      · have := i3 z; omega
      · refine ok_bind (coins_ok _ _ _ (by have := Int.emod_nonneg (x10 / 60) (show (1009 : Int) ≠ 0 by omega); have := Int.emod_lt_of_pos (x10 / 60) (show (0 : Int) < 1009 by omega); omega) (by omega)) fun y hy => ?_
        refine ok_eq (push_eq (by omega)) (ok_some ⟨?_, ?_, fun z => ?_, ?_, fun p hp => ?_⟩)
        · show (s.1 ++ [_]).length = (pre ++ [x]).length
          rw [List.length_append, List.length_append, i1]; rfl
        · show 0 ≤ s.2 + 1 + x13 ∧ s.2 + 1 + x13 ≤ 60; omega
        · exact absurd z (by simp)
        · show ((s.1 ++ [(s.2 + 1 + x13, y)]).map (·.1)).Nodup
          rw [List.map_append, List.nodup_append]
          refine ⟨i4, by simp, fun a ha b hb e => ?_⟩
          obtain ⟨p, hp, rfl⟩ := List.mem_map.mp ha
          have h1 := (i5 p hp).1.2
          simp only [List.map_cons, List.map_nil, List.mem_singleton] at hb
          omega
        · show ((1 ≤ p.1 ∧ p.1 ≤ 60) ∧ p.1 ≤ s.2 + 1 + x13) ∧ _
          rcases List.mem_append.mp hp with hp | hp
          · obtain ⟨⟨a1, a2⟩, a3⟩ := i5 p hp
            exact ⟨⟨a1, by omega⟩, a3⟩
          · rw [List.mem_singleton.mp hp]
            exact ⟨⟨⟨by show 1 ≤ s.2 + 1 + x13; omega, by show s.2 + 1 + x13 ≤ 60; omega⟩, Int.le_refl _⟩, hy⟩
    · obtain ⟨i1, i2, i3, i4, i5⟩ := hi
      rw [List.nil_append, rngN_len] at i1
      exact ⟨i4, by omega, fun z => by rw [z] at i1; simp at i1; omega, fun p hp => ⟨(i5 p hp).1.1, (i5 p hp).2⟩⟩
    · obtain ⟨s2, rfl, hJ⟩ := ho
      exact ok_some hJ
  have fin : ∀ b : Bool, Ok (((if b = true then (some (12 : Int)) else (some ((1 : Int) + (m % (5 : Int))))) : Option Int).bind fun s4 => (rng1 s4).bind fun x5 =>
      (foldB (ρ := List TII) (fun (x7 : Int) (s6 : (List TII) × Int) =>
      (n_law_mixed c (((40 : Int) + ((13 : Int) * k)) + x7)).bind fun x10 =>
      (n_law_mixed c k).bind fun x11 =>
      (atI [(5 : Int), (12 : Int), (1 : Int)] (x11 % (3 : Int))).bind fun x12 =>
      (modN x10 x12).bind fun x13 =>
      (if (decide ((60 : Int) < ((s6.2 + (1 : Int)) + x13))) = true then
      (some (Lp.bk (s6.1, ((s6.2 + (1 : Int)) + x13))))
      else ((n_law_coins (c + x7) ((x10 / (60 : Int)) % (1009 : Int)) (1000000000000 : Int)).bind fun x14 =>
      (push s6.1 (((s6.2 + (1 : Int)) + x13), x14)).bind fun x15 =>
      some (Lp.nx (x15, ((s6.2 + (1 : Int)) + x13)))))) x5 (([] : List TII), (0 : Int))).bind (lpK (fun s16 =>
      some s16.1) (fun r => some r))) PlF := fun b => by
    cases b with
    | true => exact go 12 (by omega)
    | false => exact go (1 + m % 5) (by have := Int.emod_nonneg m (show (5 : Int) ≠ 0 by omega); have := Int.emod_lt_of_pos m (show (0 : Int) < 5 by omega); omega)
  refine ok_bind (Q := fun _ => True) (ok_ite (fun _ => ok_bind (mixed_ok c (k + 20) (by omega)) fun _ _ => ok_some trivial) fun _ => ok_some trivial) fun b _ => fin b
structure DbOk (N : List Nm) (bs : List Db) : Prop where
  nm : bs.map (·.1) = N.take bs.length
  len : bs.length ≤ N.length
  pp : ∀ b ∈ bs, b.2.1 = cod "pp"
  pl : ∀ b ∈ bs, PlF b.2.2
theorem debts_ok (cs : List Int) (hc : cs.length ≤ 100) (N : List Nm) (hN : N.length = 30) : Ok (n_law_debts cs N [cod "pp"]) (DbOk N) := by
  unfold n_law_debts
  refine ok_bind (ok_fold0 (I := fun done s => DbOk N s) ⟨rfl, Nat.zero_le _, by simp, by simp⟩ fun pre x post s hp hi => ?_) fun s hs => ok_some hs
  have hx := enumN_mem (p := x) (xs := cs) (k := 0) (by rw [hp]; simp)
  refine ok_bind (mixed_ok _ _ (by omega)) fun m hm => ?_
  refine ok_ite (fun h => ?_) fun _ => ok_some hi
  rw [Bool.and_eq_true] at h
  have hlt : s.length < N.length := by have := of_decide_eq_true h.2; omega
  refine ok_eq (atI_nat (List.getElem?_eq_getElem hlt)) ?_
  refine ok_eq (modN_eq (show (0 : Int) < (([cod "pp"] : List Nm).length : Int) by decide)) ?_
  have e0 : m / 3 % (([cod "pp"] : List Nm).length : Int) = 0 := by show m / 3 % 1 = 0; omega
  rw [e0]
  refine ok_eq (show atI [cod "pp"] 0 = some (cod "pp") from by decide) ?_
  refine ok_bind (plan_ok _ _ (by omega)) fun l hl => ?_
  have := hi.len
  refine ok_eq (push_eq (by omega)) (ok_some ⟨?_, ?_, fun b hb => ?_, fun b hb => ?_⟩)
  · rw [List.map_append, hi.nm, List.length_append]
    show _ = N.take (s.length + 1)
    rw [List.take_succ, List.getElem?_eq_getElem hlt]; rfl
  · rw [List.length_append, List.length_singleton]; omega
  · rcases List.mem_append.mp hb with hb | hb
    · exact hi.pp b hb
    · rw [List.mem_singleton.mp hb]
  · rcases List.mem_append.mp hb with hb | hb
    · exact hi.pl b hb
    · rw [List.mem_singleton.mp hb]; exact hl
theorem db_bok {N : List Nm} {bs : List Db} (h : DbOk N bs) (hN : N.length = 30) (hn : N.Nodup) : BOk bs := ⟨by rw [h.nm]; exact hn.sublist (List.take_sublist _ _), by rw [← hN]; exact h.len, fun b hb => ⟨(h.pl b hb).1, (h.pl b hb).2.1, (h.pl b hb).2.2.1, (h.pl b hb).2.2.2⟩⟩
theorem db_nm {N : List Nm} {bs : List Db} (h : DbOk N bs) {b : Db} (hb : b ∈ bs) : b.1 ∈ N := by
  have : b.1 ∈ bs.map (·.1) := List.mem_map.mpr ⟨b, hb, rfl⟩
  rw [h.nm] at this
  exact List.mem_of_mem_take this
theorem db_dOk {N : List Nm} {bs : List Db} (h : DbOk N bs) (hN : ∀ n ∈ N, Low n) : dOk 6 (eLs eR1 bs) = true := dL fun b hb => dT3 (dS (hN _ (db_nm h hb)).sok) (dS (by rw [h.pp b hb]; exact sok_cod _)) (dL fun p hp => dT2 dI dI)
structure EvOk (names : List Nm) (e : Ev) : Prop where
  w : WOk names e
  k1 : e.1 = cod "late" → 1 ≤ e.2.2.2
  k0 : e.1 ≠ cod "late" → e.2.2.2 = 0
theorem events_ok (cs : List Int) (hc : cs.length ≤ 100) {N : List Nm} {bs : List Db} (h : DbOk N bs) (hN : ∀ n ∈ N, Low n) (hN30 : N.length = 30) : Ok (n_law_events cs bs) fun es => ∃ evs : List Ev, es = evs.map evD ∧ ∀ e ∈ evs, EvOk (bs.map (·.1)) e := by
  unfold n_law_events
  refine ok_bind (ok_fold0 (I := fun done es => es.length ≤ done.length ∧ ∃ evs : List Ev, es = evs.map evD ∧ ∀ e ∈ evs, EvOk (bs.map (·.1)) e) ⟨Nat.le_refl _, [], rfl, by simp⟩ fun pre x post s hp hi => ?_) fun s hs => ok_some hs.2
  obtain ⟨i1, evs, rfl, i3⟩ := hi
  have hx := enumN_mem (p := x) (xs := cs) (k := 0) (by rw [hp]; simp)
  have hpl := congrArg List.length hp
  rw [enumN_len, List.length_append] at hpl
  refine ok_bind (mixed_ok _ _ (by omega)) fun m hm => ?_
  refine ok_bind (Q := fun b => b = true → bs ≠ []) (ok_ite (fun _ => ok_eq (FA.ok_empty (n := 6) (by omega) (db_dOk h hN)) (ok_some fun z => ?_)) fun _ => ok_some fun z => by cases z) fun x11 h11 => ?_
  · intro e
    rw [e] at z
    exact absurd z (by decide)
  have keep : (evs.map evD).length ≤ (pre ++ [x]).length ∧ ∃ evs2 : List Ev, evs.map evD = evs2.map evD ∧ ∀ e ∈ evs2, EvOk (bs.map (·.1)) e := ⟨by rw [List.length_append]; omega, evs, rfl, i3⟩
  refine ok_ite (fun hc => ?_) fun _ => ok_some keep
  have hbs := h11 hc
  have hbl : 0 < bs.length := List.length_pos_iff.mpr hbs
  refine ok_bind (mixed_ok _ _ (by omega)) fun x12 h12 => ?_
  refine ok_bind (ok_mod (by omega)) fun x13 h13 => ?_
  refine ok_bind (ok_atI (R := fun b => b ∈ bs) h13.1 h13.2 fun b hb => hb) fun b hb => ?_
  refine ok_bind (ok_atI (R := fun z => 6 ≤ z ∧ z ≤ 60) (Int.emod_nonneg _ (by omega)) (Int.emod_lt_of_pos _ (by omega)) fun y hy => by
    simp only [List.mem_cons, List.not_mem_nil, or_false] at hy
    rcases hy with rfl | rfl | rfl <;> omega) fun x15 h15 => ?_
  refine ok_bind (ok_mod (by omega)) fun x16 h16 => ?_
  have hbp : 0 < b.2.2.length := List.length_pos_iff.mpr (h.pl b hb).2.2.1
  refine ok_bind (Q := fun _ => True) (ok_dite (fun _ => ok_bind (ok_mod (by omega)) fun x17 h17 => ok_bind (ok_atI (R := fun _ => True) h17.1 h17.2 fun _ _ => trivial) fun _ _ => ok_some trivial) fun _ => ok_some trivial) fun day _ => ?_
  have add : ∀ e : Ev, EvOk (bs.map (·.1)) e → Ok ((push (evs.map evD) (evD e)).bind fun x => some x) fun es => es.length ≤ (pre ++ [x]).length ∧ ∃ evs : List Ev, es = evs.map evD ∧ ∀ e ∈ evs, EvOk (bs.map (·.1)) e := fun e he => by
    rw [List.length_map] at i1
    refine ok_eq (push_eq (by rw [List.length_map]; omega)) (ok_some ⟨by rw [List.length_append, List.length_append, List.length_map, List.length_singleton, List.length_singleton]; omega, evs ++ [e], by rw [List.map_append]; rfl, fun y hy => ?_⟩)
    rcases List.mem_append.mp hy with hy | hy
    · exact i3 y hy
    · rw [List.mem_singleton.mp hy]; exact he
  have hnm : b.1 ∈ bs.map (·.1) := List.mem_map.mpr ⟨b, hb, rfl⟩
  obtain ⟨_, _, _, q1, q2, q3⟩ := f_ne
  refine ok_dite (fun _ => ?_) fun _ => ?_
  · refine ok_bind (ok_atI (R := fun z => 3 ≤ z ∧ z ≤ 30) (Int.emod_nonneg _ (by omega)) (Int.emod_lt_of_pos _ (by omega)) fun y hy => by
      simp only [List.mem_cons, List.not_mem_nil, or_false] at hy
      rcases hy with rfl | rfl <;> omega) fun x20 h20 => ?_
    refine ok_bind (ok_mod (by omega)) fun x21 h21 => ?_
    have e1 : evD (cod "late", b.1, day, 1 + x21) = eTSSII (cod "late", b.1, day, 1 + x21) := by unfold evD; rw [if_pos rfl]; rfl
    rw [← e1]
    exact add _ ⟨⟨Or.inl rfl, hnm⟩, fun _ => by show 1 ≤ 1 + x21; omega, fun z => absurd rfl z⟩
  · refine ok_bind (ok_atI (R := fun z => z = cod "early" ∨ z = cod "quit") (Int.emod_nonneg _ (by omega)) (Int.emod_lt_of_pos _ (by omega)) fun y hy => by
      simp only [List.mem_cons, List.not_mem_nil, or_false] at hy
      rcases hy with h | h | h
      · exact Or.inl h
      · exact Or.inl h
      · exact Or.inr h) fun w hw => ?_
    have hw2 : w ≠ cod "late" := by
      rcases hw with rfl | rfl
      · exact fun z => q2 z.symm
      · exact fun z => q1 z.symm
    have e1 : evD (w, b.1, day, 0) = eTSSI (w, b.1, day) := by unfold evD; rw [if_neg hw2]; rfl
    rw [← e1]
    exact add _ ⟨⟨Or.inr hw, hnm⟩, fun z => absurd z hw2, fun _ => rfl⟩
end K15
namespace K15
open PySem PySem.Spec PyProof.Rows L2 DL
open FA (Low aL aT2 aS aI)
theorem pairs_len {names : List Nm} {A : List Am} {f : Nm} {d : Int} : (pairsS names A f d).length ≤ names.length := by
  unfold pairsS
  refine Nat.le_trans (List.length_filter_le _ _) ?_
  rw [List.length_map]; exact Nat.le_refl _
theorem rows_eq : ∀ (days : List (LS × LS)) (left : LS), (∀ p ∈ days, p.1.length ≤ 1000 ∧ p.2.length ≤ 1000) → left.length + 2000 * days.length ≤ 1000000 → fold (fun (x2 : R2) (s1 : (List TSI)) =>
    (catL s1 x2.1).bind fun x5 =>
    (catL x5 x2.2).bind fun x6 =>
    some x6) days left = some (rowsS days left) ∧ (rowsS days left).length ≤ 1000000
  | [], left, _, h => ⟨rfl, by show left.length ≤ _; omega⟩
  | p :: days, left, hd, h => by
    have hp := hd p (by simp)
    rw [List.length_cons] at h
    obtain ⟨h1, h2⟩ := rows_eq days (left ++ p.1 ++ p.2) (fun q hq => hd q (by simp [hq])) (by rw [List.length_append, List.length_append]; omega)
    refine ⟨?_, h2⟩
    show (Option.bind _ _).bind _ = _
    rw [catL_eq (by omega), bindS, catL_eq (by rw [List.length_append]; omega), bindS, bindS]
    exact h1
theorem each_ok {bs : List Db} {evs : List Ev} (h : BOk bs) (hw : ∀ e ∈ evs, WOk (bs.map (·.1)) e ∧ (e.1 = cod "late" → 1 ≤ e.2.2.2)) {k : Nat} (hk : k ≤ 200) {days : List (LS × LS)} {left : LS} (h1 : days = (daysS evs (rngN 1 k) (psOf bs)).1) (h2 : left = leftS (daysS evs (rngN 1 k) (psOf bs)).2) (hdl : ∀ p ∈ days, p.1.length ≤ 1000 ∧ p.2.length ≤ 1000) (hll : left.length ≤ 1000) (hdn : days.length ≤ 200) : n_law_each (days, left) bs = some true := by
  obtain ⟨r1, r2⟩ := rows_eq days left hdl (by omega)
  unfold n_law_each
  refine ok_fin (ok_eq r1 ?_)
  have hb : ∀ l : List Db, (∀ b ∈ l, b ∈ bs) → foldB (ρ := Bool) (fun (x9 : R1) (s8 : Unit) =>
      (n_law_total (rowsS days left) x9.1).bind fun x15 =>
      (compT (fun (x16 : TII) => x16.2) x9.2.2).bind fun c17 =>
      (if (!decide (x15 = (c17).sum)) = true then
      (some (Lp.rt false))
      else (some (Lp.nx ())))) l () = some (Lp.nx ()) := by
    intro l
    induction l with
    | nil => intro _; rfl
    | cons b l ih =>
      intro hl
      have hbm := hl b (by simp)
      have e1 : n_law_total (rowsS days left) b.1 = some (sumL b.2.2) := by
        unfold n_law_total
        rw [compTF_eq r2, bindS, ← each_tot h hw k hbm, ← h1, ← h2]; rfl
      have e2 : ((n_law_total (rowsS days left) b.1).bind fun x15 =>
          (compT (fun (x16 : TII) => x16.2) b.2.2).bind fun c17 =>
          (if (!decide (x15 = (c17).sum)) = true then
          (some (Lp.rt false))
          else (some (Lp.nx ())))) = (some (Lp.nx ()) : Option (Lp Unit Bool)) := by
        rw [e1, bindS, compT_eq (by have := (h.pl b hbm).2.1; omega), bindS, if_neg]
        show ¬ ((!decide (sumL b.2.2 = sumL b.2.2)) = true)
        rw [decide_eq_true rfl]; decide
      show (Option.bind _ _).bind _ = _
      rw [e2]
      exact ih fun x hx => hl x (by simp [hx])
  refine ok_eq (hb bs fun b h => h) ?_
  exact ok_some rfl
theorem law_ok (s : List Int) (hl : s.length ≤ 63) : n_law s = some true := by
  unfold n_law
  refine ok_fin ?_
  refine ok_bind (cell_ok s 0 (by omega)) fun x1 _ => ?_
  refine ok_bind (names_ok x1) fun N hN => ?_
  have hc : (cutA s (some (2 : Int)) (some (62 : Int))).length ≤ 100 := Nat.le_trans (cutA_len _ _ _) (by omega)
  refine ok_bind (debts_ok _ hc N hN.1) fun bs hbs => ?_
  refine ok_bind (events_ok _ hc hbs hN.2.2 hN.1) fun es hes => ?_
  obtain ⟨evs, rfl, hev⟩ := hes
  refine ok_bind (cell_ok s 1 (by omega)) fun x5 _ => ?_
  refine ok_bind (mixed_ok x5 1 (by omega)) fun m hm => ?_
  refine ok_bind (ok_atI (R := fun z => 0 ≤ z ∧ z ≤ 130) (Int.emod_nonneg _ (by omega)) (Int.emod_lt_of_pos _ (by omega)) fun y hy => by
    simp only [List.mem_cons, List.not_mem_nil, or_false] at hy
    have a1 := Int.emod_nonneg (m / 7) (show (121 : Int) ≠ 0 by omega)
    have a2 := Int.emod_lt_of_pos (m / 7) (show (0 : Int) < 121 by omega)
    have a3 := Int.emod_nonneg (m / 7) (show (30 : Int) ≠ 0 by omega)
    have a4 := Int.emod_lt_of_pos (m / 7) (show (0 : Int) < 30 by omega)
    rcases hy with rfl | rfl | rfl | rfl | rfl | rfl | rfl <;> omega) fun many hmany => ?_
  have hB : BOk bs := db_bok hbs hN.1 hN.2.1
  have hbl := hB.len
  have hw : ∀ e ∈ evs, WOk (bs.map (·.1)) e ∧ (e.1 = cod "late" → 1 ≤ e.2.2.2) := fun e he => ⟨(hev e he).w, (hev e he).k1⟩
  refine ok_eq (amounts_eq hB) ?_
  refine ok_eq (walked_eq _ (fun e he => (hev e he).w.1) (by omega)) ?_
  obtain ⟨R0, F0⟩ := beg_rel hB
  obtain ⟨R, F, hd, _⟩ := days_rel hB.nd hw many.toNat 1 _ _ (by omega) R0 F0
  have hleft := left_rel hB.nd R
  have hAl : (walkA evs (rngN 1 many.toNat) (amS bs)).length ≤ 100000 := by
    rw [walk_len]
    have := ams_len (bs := bs) fun b hb => (hB.pl b hb).2.1
    omega
  generalize walkA evs (rngN 1 many.toNat) (amS bs) = A at R F hd hleft hAl ⊢
  refine ok_bind (sums_ok A hAl) fun kv hkv => ?_
  have hP : ∀ f d, f ≠ noF → n_law_pairs kv f d bs = some (pairsS (bs.map (·.1)) A f d) := fun f d hf => pairs_eq (g := fun n => sm (pD f d n) A) (by omega) fun n => by rw [hkv]; exact key_look (fun a => key_D hf a) R.c
  have hP0 : n_law_pairs kv (cod "") 0 bs = some (((bs.map (·.1)).map fun n => (n, sm (pN noF n) A)).filter fun x => decide (0 < x.2)) := pairs_eq (g := fun n => sm (pN noF n) A) (by omega) fun n => by
    rw [show (cod "", (0 : Int), n) = (noF, (0 : Int), n) from rfl, hkv]; exact key_look (fun a => key_N a) R.c
  refine ok_eq (rng2_eq (by omega) (by omega) (by omega) (by omega)) ?_
  rw [show (many + 1 - 1).toNat = many.toNat by congr 1; omega]
  refine ok_bind (ok_fold0 (I := fun done s => s = done.map fun d => (pairsS (bs.map (·.1)) A paidF d, pairsS (bs.map (·.1)) A lostF d)) rfl fun pre x post s hp hi => ?_) fun s18 hs => ?_
  · subst hi
    refine ok_eq (hP paidF x (fun z => f_ne.1 z.symm)) (ok_eq (hP lostF x (fun z => f_ne.2.1 z.symm)) ?_)
    have hpl := congrArg List.length hp
    rw [rngN_len, List.length_append] at hpl
    exact ok_eq (push_eq (by rw [List.length_map]; omega)) (ok_some (by rw [List.map_append]; rfl))
  rw [← hd] at hs
  refine ok_eq hP0 ?_
  rw [← hleft]
  refine ok_eq (compT_eq (by omega)) ?_
  rw [show bs.map (fun (x20 : R1) => (x20.1, x20.2.1, x20.2.2)) = bs from List.map_id bs]
  have hT : TOk bs evs many := ⟨hB.nd, by omega, fun b hb => ⟨(hB.pl b hb).1, by have := (hB.pl b hb).2.1; omega⟩, fun e he => (hev e he).w, fun e he => (hev e he).k0, by omega⟩
  have hn := n_told hT
  have hr : toldR bs evs many = (s18, leftS (daysS evs (rngN 1 many.toNat) (psOf bs)).2) := by rw [hs]; rfl
  rw [hr] at hn
  have hll : (leftS (daysS evs (rngN 1 many.toNat) (psOf bs)).2).length ≤ 30 := by
    rw [hleft]
    refine Nat.le_trans (List.length_filter_le _ _) ?_
    rw [List.length_map, List.length_map]; exact hbl
  have hpl : ∀ p ∈ s18, p.1.length ≤ 30 ∧ p.2.length ≤ 30 := fun p hp => by
    rw [hs, hd] at hp
    obtain ⟨d, _, rfl⟩ := List.mem_map.mp hp
    have hb2 : (bs.map (·.1)).length ≤ 30 := by rw [List.length_map]; exact hbl
    exact ⟨Nat.le_trans pairs_len hb2, Nat.le_trans pairs_len hb2⟩
  have hdn : s18.length ≤ 200 := by rw [hs, hd, List.length_map, rngN_len]; omega
  have hE := each_ok hB hw (k := many.toNat) (by omega) hs rfl (fun p hp => by have := hpl p hp; omega) (by omega) hdn
  generalize leftS (daysS evs (rngN 1 many.toNat) (psOf bs)).2 = lf at hn hll hE
  refine ok_eq hn ?_
  have ha : opB (phi_law_alike 8 [(eR3 (s18, lf)), (eR3 (s18, lf))]) = some true :=
    FA.alike_ok (aT2 (n := 6) (aL (n := 5) (by show s18.length ≤ _; omega) fun p hp => aT2 (n := 4) (aL (n := 3) (by have := hpl p hp; omega) fun q _ => aT2 aS aI) (aL (n := 3) (by have := hpl p hp; omega) fun q _ => aT2 aS aI)) (aL (n := 5) (by show lf.length ≤ _; omega) fun q _ => aT2 aS aI))
  refine ok_eq ha ?_
  refine ok_eq (v := false) (by rw [if_neg (by decide), hE]; rfl) ?_
  rw [if_neg (by decide)]
  refine ok_eq (push_eq (by rw [List.length_map]; show lf.length < _; omega)) ?_
  have hU : ∀ l : List R2, (∀ p ∈ l, p.1.length ≤ 30 ∧ p.2.length ≤ 30) → allU (fun (x27 : R2) => (push (x27.1.map eTSI) (D.int (7 : Int))).bind fun x30 => some ()) l = some () := by
    intro l
    induction l with
    | nil => intro _; rfl
    | cons p l ih =>
      intro h
      show (Option.bind _ _).bind _ = _
      rw [push_eq (by rw [List.length_map]; have := h p (by simp); omega), bindS, bindS]
      exact ih fun q hq => h q (by simp [hq])
  refine ok_eq (hU s18 hpl) ?_
  have he : eqQ (D.lst [(eLs eR1 bs), (eLs eD (evs.map evD))]) (eLs eD [(eLs eR1) bs, (eLs eD) (evs.map evD)]) = some true := by
    refine eqQ_refl 8 (by omega) (dOk_lst fun d hd => ?_)
    simp only [List.mem_cons, List.not_mem_nil, or_false] at hd
    rcases hd with rfl | rfl
    · exact dOk_up (db_dOk hbs hN.2.2) 7 (by omega)
    · refine dL (n := 6) fun d hd => ?_
      obtain ⟨e, hee, rfl⟩ := List.mem_map.mp hd
      have hW := (hev e hee).w
      have h1 : Sok e.1 := by rcases hW.1 with h | h | h <;> rw [h] <;> exact sok_cod _
      have h2 : Sok e.2.1 := by
        obtain ⟨b, hb, q⟩ := List.mem_map.mp hW.2
        rw [← q]
        exact (hN.2.2 _ (db_nm hbs hb)).sok
      show dOk 6 (evD e) = true
      unfold evD
      split
      · exact dOk_tup fun d hd => by
          simp only [List.mem_cons, List.not_mem_nil, or_false] at hd
          rcases hd with rfl | rfl | rfl | rfl
          · exact dS (sok_cod _)
          · exact dS h2
          · exact dI
          · exact dI
      · exact dT3 (dS h1) (dS h2) dI
  refine ok_eq he ?_
  rw [if_pos rfl]
  refine ok_eq (v := true) (by rw [hn, bindS, ha]; rfl) ?_
  exact ok_some rfl
theorem law_true (ns : List Int) (hl : ns.length ≤ 63) (hb : ∀ z ∈ ns, Builtin.Int.intBits z ≤ 1048576) : phi_law [.lst (ns.map D.int)] = some (.p (.bl true)) := l_law (r := true) (law_ok ns hl)
end K15
set_option maxHeartbeats 4000000
open PySem PySem.W PyProof.Rows
set_option maxHeartbeats 0 in
theorem PySem.Challenge.cw_tranchefall_k15_whole_each_coin_once_holds : PySem.Challenge.rw_tranchefall_k15_whole_each_coin_once.Holds := by
  w_on; o_law; k_head; (case hw => w_witness2)
  k_fill
  refine DL.walk_D (l := PySem.Challenge.rw_tranchefall_k15_whole_each_coin_once) (n := 63) (k := 10) (x := "_law_script") (φ := K15.phi_law) rfl (by decide) rfl ⟨rfl, by decide, by decide⟩ (fun w h Y => PySem.W.kIn_of Y) ?F K15.law_true
  case F =>
    intro w mg fa h KX G hmg
    refine' K15.all_mk KX G hmg ?a1 ?l1 ?c1 ?k1 ?a2 ?l2 ?c2 ?k2 ?a3 ?l3 ?c3 ?k3 ?a4 ?l4 ?c4 ?k4 ?a5 ?l5 ?c5 ?k5 ?a6 ?l6 ?c6 ?k6 ?a7 ?l7 ?c7 ?k7 ?a8 ?l8 ?c8 ?k8 ?a9 ?l9 ?c9 ?k9 ?a10 ?l10 ?c10 ?k10 ?a11 ?l11 ?c11 ?k11 ?a12 ?l12 ?c12 ?k12 ?a13 ?l13 ?c13 ?k13 ?a14 ?l14 ?c14 ?k14 ?a15 ?l15 ?c15 ?k15 ?a16 ?l16 ?c16 ?k16 ?a17 ?l17 ?c17 ?k17 ?a18 ?l18 ?c18 ?k18 ?a19 ?l19 ?c19 ?k19 ?z1 ?z2 ?z3 ?z4 ?z5 ?z6 ?z7 ?z8 ?z9 ?z10 ?z11
    (case a1 => k_is); (case l1 => k_is); (case c1 => k_is); (case k1 => k_is); (case a2 => k_is); (case l2 => k_is); (case c2 => k_is); (case k2 => k_is); (case a3 => k_is); (case l3 => k_is); (case c3 => k_is); (case k3 => k_is); (case a4 => k_is); (case l4 => k_is); (case c4 => k_is); (case k4 => k_is); (case a5 => k_is); (case l5 => k_is); (case c5 => k_is); (case k5 => k_is); (case a6 => k_is); (case l6 => k_is); (case c6 => k_is); (case k6 => k_is); (case a7 => k_is); (case l7 => k_is); (case c7 => k_is); (case k7 => k_is); (case a8 => k_is); (case l8 => k_is); (case c8 => k_is); (case k8 => k_is); (case a9 => k_is); (case l9 => k_is); (case c9 => k_is); (case k9 => k_is); (case a10 => k_is); (case l10 => k_is); (case c10 => k_is); (case k10 => k_is); (case a11 => k_is); (case l11 => k_is); (case c11 => k_is); (case k11 => k_is); (case a12 => k_is); (case l12 => k_is); (case c12 => k_is); (case k12 => k_is); (case a13 => k_is); (case l13 => k_is); (case c13 => k_is); (case k13 => k_is); (case a14 => k_is); (case l14 => k_is); (case c14 => k_is); (case k14 => k_is); (case a15 => k_is); (case l15 => k_is); (case c15 => k_is); (case k15 => k_is); (case a16 => k_is); (case l16 => k_is); (case c16 => k_is); (case k16 => k_is); (case a17 => k_is); (case l17 => k_is); (case c17 => k_is); (case k17 => k_is); (case a18 => k_is); (case l18 => k_is); (case c18 => k_is); (case k18 => k_is); (case a19 => k_is); (case l19 => k_is); (case c19 => k_is); (case k19 => k_is); (case z1 => k_is); (case z2 => k_is); (case z3 => k_is); (case z4 => k_is); (case z5 => k_is); (case z6 => k_is); (case z7 => k_is); (case z8 => k_is); (case z9 => k_is); (case z10 => k_is); (case z11 => k_is)
