import PyProof.Rows.All
import HandS.ForMost
import HandS.ForExc
import HandS.Deep
import HandS.Defaults
import HandS.ExcCtx
import HandS.HotCalls
import HandS.Wide
import HandS.IsInst
import HandS.Style
import HandS.TupAny
import HandS.TupLe
import HandS.RaiseMore
import HandS.Flow
import HandS.More
import HandS.TryMany
import HandS.ExcIs
import KE.SortData
import HandS.Ends
import HandS.Head0
import HandS.Head1
import HandS.Head2
import HandS.HeadEnd
import HandS.HeadHook1
import HandS.HeadHook2
import HandS.HeadHook3
import HandS.HeadHook4
import PySem.Challenge.RW_mixworths_k61_whole_best_plans
set_option Elab.async false
set_option linter.all false
set_option maxRecDepth 100000
set_option maxHeartbeats 4000000
/-! values without a heap: data D, what a slot holds S, and how the abstract heap bears them -/
namespace VS
open PySem PySem.Spec PyProof.Rows L2

/-- data that nobody changes any more -/
inductive D where
  | non | bl (b : Bool) | int (i : Int) | str (x : Str)
  | tup (ds : List D) | lst (ds : List D)
  | dct (t : Bool) (ks : List (List Key)) (ds : List D)
  | obj (c : Str) (ns : List Str) (ds : List D)
  | scr (ns : List Int)
  deriving Inhabited
/-- what a slot holds: data, or a thing that this slot alone may change -/
inductive S where
  | fz (d : D) | lst (ds : List D) | dct (t : Bool) (ks : List (List Key)) (ds : List D)
  | obj (c : Str) (ns : List Str) (ss : List S)
mutual
def S.fr : S → D
  | .fz d => d
  | .lst ds => .lst ds
  | .dct t ks ds => .dct t ks ds
  | .obj c ns ss => .obj c ns (S.frs ss)
def S.frs : List S → List D
  | [] => []
  | s :: r => S.fr s :: S.frs r
end
mutual
def D.py : D → PyData
  | .non => .none
  | .bl b => .bool b
  | .int i => .int i
  | .str x => .str x
  | .tup ds => .tuple (D.pys ds)
  | .lst ds => .list (D.pys ds)
  | .dct _ _ _ => .dict []
  | .obj _ _ _ => .dict []
  | .scr _ => .dict []
def D.pys : List D → List PyData
  | [] => []
  | d :: r => D.py d :: D.pys r
end
mutual
/-- no dict, object or script in it -/
def D.flat : D → Bool
  | .tup ds => D.flats ds
  | .lst ds => D.flats ds
  | .dct _ _ _ => false
  | .obj _ _ _ => false
  | .scr _ => false
  | .non | .bl _ | .int _ | .str _ => true
def D.flats : List D → Bool
  | [] => true
  | d :: r => D.flat d && D.flats r
end
mutual
def D.depth : D → Nat
  | .tup ds => D.depths ds + 1
  | .lst ds => D.depths ds + 1
  | .dct _ _ _ | .obj _ _ _ | .scr _ | .non | .bl _ | .int _ | .str _ => 0
def D.depths : List D → Nat
  | [] => 0
  | d :: r => max (D.depth d) (D.depths r)
end

/-- the written part, and where its classes stand -/
structure Gm where
  K : PySem.W.Frag
  cls : Str → Option Addr
/-- who may change the object at an address: nobody (none), a caller (some []), the slot i by the path i + 1 :: .., a value on its way by 0 :: .. -/
abbrev Tg := Addr → Option (List Nat)

mutual
inductive F (g : Gm) (τ : Tg) (H : Hp) : V → D → Prop
  | non : F g τ H .non .non
  | bl (b : Bool) : F g τ H (.bl b) (.bl b)
  | int (i : Int) : F g τ H (.int i) (.int i)
  | str (x : Str) : PyData.strOk x = true → F g τ H (.str x) (.str x)
  | tup {a : Addr} {vs : List V} {ds : List D} : H a = some (.tup vs) → τ a = none → Fs g τ H vs ds → F g τ H (.ref a) (.tup ds)
  | lst {a : Addr} {vs : List V} {ds : List D} : H a = some (.lst vs) → τ a = none → Fs g τ H vs ds → F g τ H (.ref a) (.lst ds)
  | dK {a : Addr} {kvs : List (Key × V)} {ds : List D} : H a = some (.dK kvs) → τ a = none → Fs g τ H (kvs.map Prod.snd) ds → F g τ H (.ref a) (.dct false (kvs.map fun p => [p.1]) ds)
  | dT {a : Addr} {kvs : List (List Key × V)} {ds : List D} : H a = some (.dT kvs) → τ a = none → Fs g τ H (kvs.map Prod.snd) ds → F g τ H (.ref a) (.dct true (kvs.map Prod.fst) ds)
  | obj {a C dx : Addr} {fs : List (Str × V)} {ds : List D} {c : Str} : H a = some (.ins C dx fs) → τ a = none → g.cls c = some C → Fs g τ H (fs.map Prod.snd) ds → F g τ H (.ref a) (.obj c (fs.map Prod.fst) ds)
  | scr {a : Addr} {ns : List Int} : ((∃ o, H a = some (.frz o (.lst (ns.map V.int))) ∧ τ a = none) ∨ SqL g.K (fun _ => none) a (ns.map V.int)) → F g τ H (.ref a) (.scr ns)
inductive Fs (g : Gm) (τ : Tg) (H : Hp) : List V → List D → Prop
  | nil : Fs g τ H [] []
  | cons {v : V} {vs : List V} {d : D} {ds : List D} : F g τ H v d → Fs g τ H vs ds → Fs g τ H (v :: vs) (d :: ds)
end
mutual
inductive W (g : Gm) (τ : Tg) (H : Hp) : List Nat → V → S → Prop
  | fz {π : List Nat} {v : V} {d : D} : F g τ H v d → W g τ H π v (.fz d)
  | lst {π : List Nat} {a : Addr} {vs : List V} {ds : List D} : H a = some (.lst vs) → τ a = some π → Fs g τ H vs ds → W g τ H π (.ref a) (.lst ds)
  | dK {π : List Nat} {a : Addr} {kvs : List (Key × V)} {ds : List D} : H a = some (.dK kvs) → τ a = some π → Fs g τ H (kvs.map Prod.snd) ds → W g τ H π (.ref a) (.dct false (kvs.map fun p => [p.1]) ds)
  | dT {π : List Nat} {a : Addr} {kvs : List (List Key × V)} {ds : List D} : H a = some (.dT kvs) → τ a = some π → Fs g τ H (kvs.map Prod.snd) ds → W g τ H π (.ref a) (.dct true (kvs.map Prod.fst) ds)
  | obj {π : List Nat} {a C dx : Addr} {fs : List (Str × V)} {ss : List S} {c : Str} : H a = some (.ins C dx fs) → τ a = some π → g.cls c = some C → Ws g τ H π 0 (fs.map Prod.snd) ss → W g τ H π (.ref a) (.obj c (fs.map Prod.fst) ss)
inductive Ws (g : Gm) (τ : Tg) (H : Hp) : List Nat → Nat → List V → List S → Prop
  | nil {π : List Nat} {k : Nat} : Ws g τ H π k [] []
  | cons {π : List Nat} {k : Nat} {v : V} {vs : List V} {s : S} {ss : List S} : W g τ H (π ++ [k]) v s → Ws g τ H π (k + 1) vs ss → Ws g τ H π k (v :: vs) (s :: ss)
end

section
variable {g : Gm} {τ τ' τ1 τ2 : Tg} {H H' H1 H2 : Hp}
/-- what nobody changes stays -/
def Ext (τ : Tg) (H : Hp) (τ' : Tg) (H' : Hp) : Prop := ∀ a o, τ a = none → H a = some o → τ' a = none ∧ H' a = some o
theorem Ext.refl : Ext τ H τ H := fun _ _ h e => ⟨h, e⟩
theorem Ext.trans (h1 : Ext τ H τ1 H1) (h2 : Ext τ1 H1 τ2 H2) : Ext τ H τ2 H2 := fun a o h e => let ⟨x, y⟩ := h1 a o h e; h2 a o x y
theorem Ext.same (h : Same H H') : Ext τ H τ H' := fun a o t e => ⟨t, h a o e⟩
mutual
theorem F.tr (he : Ext τ H τ' H') {v : V} {d : D} (h : F g τ H v d) : F g τ' H' v d := match h with
  | .non => .non
  | .bl b => .bl b
  | .int i => .int i
  | .str x h => .str x h
  | .tup e t f => let ⟨t', e'⟩ := he _ _ t e; .tup e' t' (Fs.tr he f)
  | .lst e t f => let ⟨t', e'⟩ := he _ _ t e; .lst e' t' (Fs.tr he f)
  | .dK e t f => let ⟨t', e'⟩ := he _ _ t e; .dK e' t' (Fs.tr he f)
  | .dT e t f => let ⟨t', e'⟩ := he _ _ t e; .dT e' t' (Fs.tr he f)
  | .obj e t c f => let ⟨t', e'⟩ := he _ _ t e; .obj e' t' c (Fs.tr he f)
  | .scr (.inl ⟨o, e, t⟩) => let ⟨t', e'⟩ := he _ _ t e; .scr (.inl ⟨o, e', t'⟩)
  | .scr (.inr q) => .scr (.inr q)
theorem Fs.tr (he : Ext τ H τ' H') {vs : List V} {ds : List D} (h : Fs g τ H vs ds) : Fs g τ' H' vs ds := match h with
  | .nil => .nil
  | .cons f r => .cons (F.tr he f) (Fs.tr he r)
end
/-- what the path π may change stays, and is the path π' 's -/
def Kp (π π' : List Nat) (τ : Tg) (H : Hp) (τ' : Tg) (H' : Hp) : Prop := ∀ a r o, τ a = some (π ++ r) → H a = some o → τ' a = some (π' ++ r) ∧ H' a = some o
theorem Kp.sub {π π' : List Nat} {r : List Nat} (h : Kp π π' τ H τ' H') : Kp (π ++ r) (π' ++ r) τ H τ' H' := fun a q o t e => by
  rw [List.append_assoc] at t ⊢
  exact h a _ o t e
mutual
theorem W.tr (he : Ext τ H τ' H') {π π' : List Nat} (hk : Kp π π' τ H τ' H') {v : V} {s : S} (h : W g τ H π v s) : W g τ' H' π' v s := match h with
  | .fz f => .fz (f.tr he)
  | .lst e t f => let ⟨t', e'⟩ := hk _ [] _ (by rw [List.append_nil]; exact t) e; .lst e' (by rw [List.append_nil] at t'; exact t') (f.tr he)
  | .dK e t f => let ⟨t', e'⟩ := hk _ [] _ (by rw [List.append_nil]; exact t) e; .dK e' (by rw [List.append_nil] at t'; exact t') (f.tr he)
  | .dT e t f => let ⟨t', e'⟩ := hk _ [] _ (by rw [List.append_nil]; exact t) e; .dT e' (by rw [List.append_nil] at t'; exact t') (f.tr he)
  | .obj e t c f => let ⟨t', e'⟩ := hk _ [] _ (by rw [List.append_nil]; exact t) e; .obj e' (by rw [List.append_nil] at t'; exact t') c (Ws.tr he hk f)
theorem Ws.tr (he : Ext τ H τ' H') {π π' : List Nat} {k : Nat} (hk : Kp π π' τ H τ' H') {vs : List V} {ss : List S} (h : Ws g τ H π k vs ss) : Ws g τ' H' π' k vs ss := match h with
  | .nil => .nil
  | .cons f r => .cons (W.tr he hk.sub f) (Ws.tr he hk r)
end
mutual
/-- nobody's any more -/
theorem W.fr (he : Ext τ H τ' H') {π : List Nat} (hk : ∀ a r o, τ a = some (π ++ r) → H a = some o → τ' a = none ∧ H' a = some o) {v : V} {s : S} (h : W g τ H π v s) : F g τ' H' v s.fr := match h with
  | .fz f => f.tr he
  | .lst e t f => let ⟨t', e'⟩ := hk _ [] _ (by rw [List.append_nil]; exact t) e; .lst e' t' (f.tr he)
  | .dK e t f => let ⟨t', e'⟩ := hk _ [] _ (by rw [List.append_nil]; exact t) e; .dK e' t' (f.tr he)
  | .dT e t f => let ⟨t', e'⟩ := hk _ [] _ (by rw [List.append_nil]; exact t) e; .dT e' t' (f.tr he)
  | .obj e t c f => let ⟨t', e'⟩ := hk _ [] _ (by rw [List.append_nil]; exact t) e; .obj e' t' c (Ws.fr he hk f)
theorem Ws.fr (he : Ext τ H τ' H') {π : List Nat} {k : Nat} (hk : ∀ a r o, τ a = some (π ++ r) → H a = some o → τ' a = none ∧ H' a = some o) {vs : List V} {ss : List S} (h : Ws g τ H π k vs ss) : Fs g τ' H' vs (S.frs ss) := match h with
  | .nil => .nil
  | .cons f r => .cons (W.fr he (fun a q o t e => hk a _ o (by rw [List.append_assoc] at t; exact t) e) f) (Ws.fr he hk r)
end
theorem F.same (h : Same H H') {v : V} {d : D} (f : F g τ H v d) : F g τ H' v d := f.tr (.same h)
theorem Fs.same (h : Same H H') {v : List V} {d : List D} (f : Fs g τ H v d) : Fs g τ H' v d := f.tr (.same h)
theorem W.same (h : Same H H') {π : List Nat} {v : V} {s : S} (f : W g τ H π v s) : W g τ H' π v s := f.tr (.same h) fun a r o t e => ⟨t, h a o e⟩
end

section
variable {g : Gm} {τ : Tg} {H : Hp}
theorem Fs.len {vs : List V} {ds : List D} (h : Fs g τ H vs ds) : vs.length = ds.length := match h with
  | .nil => rfl
  | .cons _ r => by rw [List.length_cons, List.length_cons, Fs.len r]
theorem Fs.get : ∀ {vs : List V} {ds : List D} {i : Nat} {d : D}, Fs g τ H vs ds → ds[i]? = some d → ∃ v, vs[i]? = some v ∧ F g τ H v d
  | _, _, _, _, .nil, e => by simp at e
  | _, _, 0, _, .cons f _, e => by simp at e; subst e; exact ⟨_, rfl, f⟩
  | _, _, i + 1, _, .cons _ r, e => Fs.get (i := i) r (by simpa using e)
theorem Fs.getV : ∀ {vs : List V} {ds : List D} {i : Nat} {v : V}, Fs g τ H vs ds → vs[i]? = some v → ∃ d, ds[i]? = some d ∧ F g τ H v d
  | _, _, _, _, .nil, e => by simp at e
  | _, _, 0, _, .cons f _, e => by simp at e; subst e; exact ⟨_, rfl, f⟩
  | _, _, i + 1, _, .cons _ r, e => Fs.getV (i := i) r (by simpa using e)
theorem Fs.set : ∀ {vs : List V} {ds : List D} (i : Nat) {v : V} {d : D}, Fs g τ H vs ds → F g τ H v d → Fs g τ H (vs.set i v) (ds.set i d)
  | _, _, _, _, _, .nil, _ => .nil
  | _, _, 0, _, _, .cons _ r, f => .cons f r
  | _, _, i + 1, _, _, .cons q r, f => .cons q (Fs.set i r f)
theorem Fs.app : ∀ {vs ws : List V} {ds es : List D}, Fs g τ H vs ds → Fs g τ H ws es → Fs g τ H (vs ++ ws) (ds ++ es)
  | _, _, _, _, .nil, h => h
  | _, _, _, _, .cons f r, h => .cons f (Fs.app r h)
theorem Fs.drop : ∀ {vs : List V} {ds : List D} (i : Nat), Fs g τ H vs ds → Fs g τ H (vs.drop i) (ds.drop i)
  | _, _, 0, h => h
  | _, _, _ + 1, .nil => .nil
  | _, _, i + 1, .cons _ r => Fs.drop i r
theorem Fs.take : ∀ {vs : List V} {ds : List D} (i : Nat), Fs g τ H vs ds → Fs g τ H (vs.take i) (ds.take i)
  | _, _, 0, _ => .nil
  | _, _, _ + 1, .nil => .nil
  | _, _, i + 1, .cons f r => .cons f (Fs.take i r)
theorem Fs.erase : ∀ {vs : List V} {ds : List D} (i : Nat), Fs g τ H vs ds → Fs g τ H (vs.eraseIdx i) (ds.eraseIdx i)
  | _, _, _, .nil => .nil
  | _, _, 0, .cons _ r => r
  | _, _, i + 1, .cons f r => .cons f (Fs.erase i r)
theorem Fs.ints : ∀ {vs : List V} {ns : List Int}, Fs g τ H vs (ns.map D.int) → vs = ns.map V.int
  | _, [], .nil => rfl
  | _, _ :: _, .cons (.int _) r => by rw [List.map_cons, Fs.ints r]
theorem Fs.of_ints : ∀ (ns : List Int), Fs g τ H (ns.map V.int) (ns.map D.int)
  | [] => .nil
  | n :: r => .cons (.int n) (Fs.of_ints r)
theorem Fs.bls : ∀ {vs : List V} {ns : List Bool}, Fs g τ H vs (ns.map D.bl) → vs = ns.map V.bl
  | _, [], .nil => rfl
  | _, _ :: _, .cons (.bl _) r => by rw [List.map_cons, Fs.bls r]
theorem Fs.strs : ∀ {vs : List V} {ns : List Str}, Fs g τ H vs (ns.map D.str) → vs = ns.map V.str ∧ ∀ x ∈ ns, PyData.strOk x = true
  | _, [], .nil => ⟨rfl, fun _ h => nomatch h⟩
  | _, _ :: _, .cons (.str _ h) r => by
    obtain ⟨e, f⟩ := Fs.strs r
    exact ⟨by rw [List.map_cons, e], fun y hy => (List.mem_cons.mp hy).elim (fun q => q ▸ h) (f y)⟩
theorem Fs.of_strs : ∀ (ns : List Str), (∀ x ∈ ns, PyData.strOk x = true) → Fs g τ H (ns.map V.str) (ns.map D.str)
  | [], _ => .nil
  | n :: r, h => .cons (.str n (h n List.mem_cons_self)) (Fs.of_strs r fun x q => h x (List.mem_cons_of_mem _ q))
theorem Ws.len {π : List Nat} : ∀ {k : Nat} {vs : List V} {ss : List S}, Ws g τ H π k vs ss → vs.length = ss.length
  | _, _, _, .nil => rfl
  | _, _, _, .cons _ r => by rw [List.length_cons, List.length_cons, Ws.len r]
theorem Ws.get {π : List Nat} : ∀ {k : Nat} {vs : List V} {ss : List S} {i : Nat} {s : S}, Ws g τ H π k vs ss → ss[i]? = some s → ∃ v, vs[i]? = some v ∧ W g τ H (π ++ [k + i]) v s
  | _, _, _, _, _, .nil, e => by simp at e
  | _, _, _, 0, _, .cons f _, e => by simp at e; subst e; exact ⟨_, rfl, f⟩
  | k, _, _, i + 1, _, .cons _ r, e => by
    obtain ⟨v, h1, h2⟩ := Ws.get (i := i) r (by simpa using e)
    exact ⟨v, by simpa using h1, by rw [show k + (i + 1) = k + 1 + i by omega]; exact h2⟩
theorem W.of_fz {π : List Nat} {v : V} {d : D} (h : W g τ H π v (.fz d)) : F g τ H v d := by cases h; assumption
/-- data's Dp, for == -/
theorem D.canLay : True := trivial
end
mutual
theorem F.dp {g : Gm} {τ : Tg} {H : Hp} {v : V} {d : D} (h : F g τ H v d) (hf : d.flat = true) : Dp g.K H v d.py ∧ d.py.canLay0 = true := match h with
  | .non => ⟨.non, rfl⟩
  | .bl b => ⟨.bl b, rfl⟩
  | .int i => ⟨.int i, rfl⟩
  | .str x h => ⟨.str x, h⟩
  | .tup e _ f => by
    have := Fs.dp f (by simpa [D.flat] using hf)
    exact ⟨by unfold D.py; exact .tup (.inl (.inl e)) this.1, by unfold D.py; simpa [PyData.canLay0] using this.2⟩
  | .lst e _ f => by
    have := Fs.dp f (by simpa [D.flat] using hf)
    exact ⟨by unfold D.py; exact .lst (.inl (.inl e)) this.1, by unfold D.py; simpa [PyData.canLay0] using this.2⟩
  | .dK _ _ _ => by simp [D.flat] at hf
  | .dT _ _ _ => by simp [D.flat] at hf
  | .obj _ _ _ _ => by simp [D.flat] at hf
  | .scr _ => by simp [D.flat] at hf
theorem Fs.dp {g : Gm} {τ : Tg} {H : Hp} {vs : List V} {ds : List D} (h : Fs g τ H vs ds) (hf : D.flats ds = true) : DpAll g.K H vs (D.pys ds) ∧ PyData.canLayAll0 (D.pys ds) = true := match h with
  | .nil => ⟨.nil, rfl⟩
  | .cons f r => by
    simp only [D.flats, Bool.and_eq_true] at hf
    have h1 := F.dp f hf.1
    have h2 := Fs.dp r hf.2
    exact ⟨.cons h1.1 h2.1, by simp only [D.pys, PyData.canLayAll0, h1.2, h2.2, Bool.and_self]⟩
end
mutual
theorem D.py_depth : ∀ d : D, d.flat = true → d.py.depth = d.depth
  | .non, _ => rfl
  | .bl _, _ => rfl
  | .int _, _ => rfl
  | .str _, _ => rfl
  | .tup ds, h => by simp only [D.py, PyData.depth, D.depth]; rw [D.pys_depth ds (by simpa [D.flat] using h)]
  | .lst ds, h => by simp only [D.py, PyData.depth, D.depth]; rw [D.pys_depth ds (by simpa [D.flat] using h)]
  | .dct _ _ _, h => by simp [D.flat] at h
  | .obj _ _ _, h => by simp [D.flat] at h
  | .scr _, h => by simp [D.flat] at h
theorem D.pys_depth : ∀ ds : List D, D.flats ds = true → PyData.depthAll (D.pys ds) = D.depths ds
  | [], _ => rfl
  | d :: r, h => by
    simp only [D.flats, Bool.and_eq_true] at h
    simp only [D.pys, PyData.depthAll, D.depths, D.py_depth d h.1, D.pys_depth r h.2]
end
def D.eqOk (d : D) : Bool := d.flat && decide (d.depth ≤ 64)
theorem F.shaped {g : Gm} {τ : Tg} {H : Hp} {v : V} {d : D} (h : F g τ H v d) (hk : d.eqOk = true) : Dp g.K H v d.py ∧ SeqAt.shaped d.py = true := by
  simp only [D.eqOk, Bool.and_eq_true, decide_eq_true_eq] at hk
  have := h.dp hk.1
  refine ⟨this.1, ?_⟩
  show (d.py.canLay0 && decide (d.py.depth ≤ 64)) = true
  rw [this.2, D.py_depth d hk.1, Bool.true_and]
  exact decide_eq_true hk.2
end VS
namespace VS
open PySem PySem.Spec PyProof.Rows L2

/-- an exception: the name of its class, its own fields -/
structure XD where
  c : Str
  ns : List Str := []
  ds : List D := []
def XR (g : Gm) (τ : Tg) (H : Hp) (x : XD) (cls : Value) (d : Option Addr) : Prop :=
  ∃ C, cls = .ref C ∧ g.cls x.c = some C ∧ ((x.ns = [] ∧ x.ds = [] ∧ d = none) ∨ x.ns ≠ [] ∧ ∃ dd vs, d = some dd ∧ H dd = some (.xd vs) ∧ vs.map Prod.fst = x.ns ∧ Fs g τ H (vs.map Prod.snd) x.ds)
abbrev Env := List (Option S)
/-- a def's entry: who may change what, the heap, the parameters that the def may change, their values -/
structure JC where
  τ : Tg
  H : Hp
  mp : List Nat
  vs : Nat → Option V
structure J (g : Gm) (c : JC) (τ : Tg) (σ : L2.St) (H : Hp) (ρ : Env) : Prop where
  len : ρ.length = σ.length
  dom : ∀ a q, τ a = some q → ∃ o, H a = some o
  ext : Ext c.τ c.H τ H
  grd : ∀ a, τ a = some [] ↔ c.τ a = some []
  grh : ∀ a, c.τ a = some [] → H a = c.H a
  env : ∀ i s, ρ[i]? = some (some s) → ∃ v, σ[i]? = some (some v) ∧ W g τ H [i + 1] v s
  pin : ∀ i, i ∈ c.mp → ∀ v, c.vs i = some v → σ[i]? = some (some v)
inductive R (α : Type) where
  | ok (a : α) | exc (x : XD) (ρ : Env) | bad
inductive Out where
  | nx (ρ : Env) | rt (s : S) (ρ : Env) | bk (ρ : Env) | ct (ρ : Env) | exc (x : XD) (ρ : Env) | bad
abbrev TQ := Env → Option S
abbrev TV := Env → R (S × Env)
abbrev TSt := Env → Out
/-- a wish about exceptions -/
abbrev WX := L2.WX
def gX (X : Cx) : Gm := ⟨X.K, fun c => match X.mg c with
  | some (.ref C) => some C
  | _ => none⟩

/-- a thing just made: its place, what is known of it -/
def Nw (g : Gm) (τ : Tg) (H H' : Hp) (v : V) (s : S) : Prop := ∃ (p : Addr) (H1 : Hp), v = .ref p ∧ Same H H1 ∧ H1 p = none ∧ Same H1 H' ∧ match s with
  | .lst ds => ∃ vs, H' p = some (.lst vs) ∧ Fs g τ H1 vs ds
  | .dct false ks ds => ∃ kvs, H' p = some (.dK kvs) ∧ ks = kvs.map (fun q => [q.1]) ∧ Fs g τ H1 (kvs.map Prod.snd) ds
  | .dct true ks ds => ∃ kvs, H' p = some (.dT kvs) ∧ ks = kvs.map Prod.fst ∧ Fs g τ H1 (kvs.map Prod.snd) ds
  | _ => False
theorem Nw.same {g : Gm} {τ : Tg} {H H' : Hp} {v : V} {s : S} (n : Nw g τ H H' v s) : Same H H' := let ⟨_, _, _, a, _, b, _⟩ := n; a.trans b

def tQ (g : Gm) (c : JC) (t : TQ) : TE := fun σ H Q => ∃ τ ρ s, J g c τ σ H ρ ∧ t ρ = some s ∧ ∀ v H' π, Same H H' → J g c τ σ H' ρ → W g τ H' π v s → Q v H'
def tN (g : Gm) (c : JC) (t : TQ) : TE := fun σ H Q => ∃ τ ρ s, J g c τ σ H ρ ∧ t ρ = some s ∧ ∀ v H', Same H H' → J g c τ σ H' ρ → Nw g τ H H' v s → Q v H'
def tV (g : Gm) (c : JC) (w : WX) (t : TV) : TE := fun σ H Q => ∃ τ ρ, J g c τ σ H ρ ∧ match t ρ with
  | .ok (s, ρ') => ∀ v H' τ', Ext τ H τ' H' → J g c τ' σ H' ρ' → W g τ' H' [0] v s → Q v H'
  | .exc x ρ' => ∀ cls d H' τ', Ext τ H τ' H' → J g c τ' σ H' ρ' → XR g τ' H' x cls d → w cls d σ H'
  | .bad => False
/-- a test (quiet; not quiet) -/
def tTQ (g : Gm) (c : JC) (t : Env → Option Bool) : TT := fun σ H Q => ∃ τ ρ b, J g c τ σ H ρ ∧ t ρ = some b ∧ ∀ H', Same H H' → J g c τ σ H' ρ → Q b H'
def tTV (g : Gm) (c : JC) (w : WX) (t : Env → R (Bool × Env)) : TT := fun σ H Q => ∃ τ ρ, J g c τ σ H ρ ∧ match t ρ with
  | .ok (b, ρ') => ∀ H' τ', Ext τ H τ' H' → J g c τ' σ H' ρ' → Q b H'
  | .exc x ρ' => ∀ cls d H' τ', Ext τ H τ' H' → J g c τ' σ H' ρ' → XR g τ' H' x cls d → w cls d σ H'
  | .bad => False
def tS (g : Gm) (c : JC) (w : WX) (t : TSt) : TS := fun Dn σ H => ∃ τ ρ, J g c τ σ H ρ ∧ match t ρ with
  | .nx ρ' => ∀ τ' σ' H', Ext τ H τ' H' → J g c τ' σ' H' ρ' → Dn.nx σ' H'
  | .rt s ρ' => ∀ τ' σ' v H', Ext τ H τ' H' → J g c τ' σ' H' ρ' → W g τ' H' [0] v s → Dn.rt v H'
  | .bk ρ' => ∀ τ' σ' H', Ext τ H τ' H' → J g c τ' σ' H' ρ' → Dn.bk σ' H'
  | .ct ρ' => ∀ τ' σ' H', Ext τ H τ' H' → J g c τ' σ' H' ρ' → Dn.ct σ' H'
  | .exc x ρ' => ∀ cls d τ' σ' H', Ext τ H τ' H' → J g c τ' σ' H' ρ' → XR g τ' H' x cls d → w cls d σ' H'
  | .bad => False

/-! ### weakening the library's judgements -/
theorem PEw {X : Cx} {e : Expr} {t t' : TE} (h : PE X e t) (k : ∀ σ H Q, t' σ H Q → t σ H Q) : PE X e t' := ⟨fun pins s σ H Q I q => h.run pins s σ H Q I (k σ H Q q)⟩
theorem PTw {X : Cx} {e : Expr} {t t' : TT} (h : PT X e t) (k : ∀ σ H Q, t' σ H Q → t σ H Q) : PT X e t' := ⟨fun pins s σ H Q I q => h.run pins s σ H Q I (k σ H Q q)⟩
theorem PWw {X : Cx} {e : Expr} {t t' : TT} (h : PW X e t) (k : ∀ σ H Q, t' σ H Q → t σ H Q) : PW X e t' := ⟨fun wh pins s σ H Q I q => h.run wh pins s σ H Q I (k σ H Q q)⟩
theorem PSw {X : Cx} {e : Stmt} {t t' : TS} (h : PS X e t) (k : ∀ Dn σ H, t' Dn σ H → t Dn σ H) : PS X e t' := ⟨fun pins s σ H Q I q => h.run pins s σ H Q I (k Q σ H q)⟩
theorem PSsw {X : Cx} {e : List Stmt} {t t' : TS} (h : PSs X e t) (k : ∀ Dn σ H, t' Dn σ H → t Dn σ H) : PSs X e t' := ⟨fun pins s σ H Q I q => h.run pins s σ H Q I (k Q σ H q)⟩
theorem PAw {X : Cx} {es : List Expr} {t t' : TA} (h : PA X es t) (k : ∀ σ H Q, t' σ H Q → t σ H Q) : PA X es t' := ⟨fun p pins s σ H Q I q => h.run p pins s σ H Q I (k σ H Q q)⟩

section
variable {g : Gm} {c : JC} {τ τ' : Tg} {σ : L2.St} {H H' : Hp} {ρ : Env}
theorem J.free (j : J g c τ σ H ρ) {p : Addr} (h : H p = none) : τ p = none := by
  cases e : τ p with
  | none => rfl
  | some q =>
    obtain ⟨o, z⟩ := j.dom p q e
    rw [h] at z; cases z
theorem J.same (j : J g c τ σ H ρ) (h : Same H H') : J g c τ σ H' ρ where
  len := j.len
  dom := fun a q e => let ⟨o, z⟩ := j.dom a q e; ⟨o, h a o z⟩
  ext := j.ext.trans (.same h)
  grd := j.grd
  grh := fun a e => by
    obtain ⟨o, z⟩ := j.dom a [] ((j.grd a).mpr e)
    rw [← j.grh a e, z, h a o z]
  env := fun i s e => let ⟨v, a, b⟩ := j.env i s e; ⟨v, a, b.same h⟩
  pin := j.pin
/-- other tags, another heap: what the slots hold is carried over -/
theorem J.turn {ρ' : Env} {σ' : L2.St} (j : J g c τ σ H ρ) (hl : ρ'.length = σ'.length) (dom : ∀ a q, τ' a = some q → ∃ o, H' a = some o) (ext : Ext τ H τ' H') (grd : ∀ a, τ' a = some [] ↔ τ a = some []) (grh : ∀ a, τ a = some [] → H' a = H a)
    (env : ∀ i s, ρ'[i]? = some (some s) → (ρ[i]? = some (some s) ∧ σ'[i]? = σ[i]? ∧ Kp [i + 1] [i + 1] τ H τ' H') ∨ ∃ v, σ'[i]? = some (some v) ∧ W g τ' H' [i + 1] v s)
    (pin : ∀ i, i ∈ c.mp → σ'[i]? = σ[i]?) : J g c τ' σ' H' ρ' where
  len := hl
  dom := dom
  ext := j.ext.trans ext
  grd := fun a => (grd a).trans (j.grd a)
  grh := fun a e => (grh a ((j.grd a).mpr e)).trans (j.grh a e)
  env := fun i s e => by
    rcases env i s e with ⟨h1, h2, h3⟩ | h
    · obtain ⟨v, a, b⟩ := j.env i s h1
      exact ⟨v, h2.trans a, b.tr ext h3⟩
    · exact h
  pin := fun i e v q => (pin i e).trans (j.pin i e v q)

/-- tags of what was under π are turned by f -/
def retag (k : Nat) (f : List Nat → Option (List Nat)) (τ : Tg) : Tg := fun a => match τ a with
  | some (n :: r) => if n = k then f r else some (n :: r)
  | x => x
theorem retag_none {k : Nat} {f} {a : Addr} (h : τ a = none) : retag k f τ a = none := by unfold retag; rw [h]
theorem retag_nil {k : Nat} {f} {a : Addr} (h : τ a = some []) : retag k f τ a = some [] := by unfold retag; rw [h]
theorem retag_ne {k n : Nat} {f} {r : List Nat} {a : Addr} (h : τ a = some (n :: r)) (hn : n ≠ k) : retag k f τ a = some (n :: r) := by unfold retag; rw [h]; exact if_neg hn
theorem retag_eq {k : Nat} {f} {r : List Nat} {a : Addr} (h : τ a = some (k :: r)) : retag k f τ a = f r := by unfold retag; rw [h]; exact if_pos rfl
theorem retag_some {k : Nat} {f} {q : List Nat} {a : Addr} (h : retag k f τ a = some q) : ∃ q', τ a = some q' := by
  cases e : τ a with
  | none => rw [retag_none e] at h; cases h
  | some q' => exact ⟨q', rfl⟩
theorem retag_ext {k : Nat} {f} : Ext τ H (retag k f τ) H := fun a o t e => ⟨retag_none t, e⟩
theorem retag_kp {k n : Nat} {f} (h : n ≠ k) : Kp [n] [n] τ H (retag k f τ) H := fun a r o t e => ⟨retag_ne t h, e⟩
theorem retag_grd {k : Nat} {f} (hf : ∀ r, f r ≠ some []) (a : Addr) : retag k f τ a = some [] ↔ τ a = some [] := by
  constructor
  · intro h
    cases e : τ a with
    | none => rw [retag_none e] at h; cases h
    | some q => cases q with
      | nil => rfl
      | cons n r =>
        by_cases hn : n = k
        · subst hn
          rw [retag_eq e] at h
          exact absurd h (hf r)
        · rw [retag_ne e hn] at h; cases h
  · exact retag_nil
theorem retag_mv {k m : Nat} : Kp [k] [m] τ H (retag k (fun r => some (m :: r)) τ) H := fun a r o t e => ⟨retag_eq t, e⟩
def tagAt (p : Addr) (τ : Tg) : Tg := fun a => if a = p then some [0] else τ a
theorem tagAt_eq {p : Addr} : tagAt p τ p = some [0] := if_pos rfl
theorem tagAt_ne {p a : Addr} (h : a ≠ p) : tagAt p τ a = τ a := if_neg h
/-- what is on its way is nobody's any more -/
theorem J.freeze (j : J g c τ σ H ρ) : J g c (retag 0 (fun _ => none) τ) σ H ρ :=
  j.turn j.len (fun a q e => let ⟨q', z⟩ := retag_some e; j.dom a q' z) retag_ext (retag_grd fun _ h => nomatch h) (fun _ _ => rfl) (fun i s e => .inl ⟨e, rfl, retag_kp (by omega)⟩) fun _ _ => rfl
theorem W.freeze {v : V} {s : S} (h : W g τ H [0] v s) : F g (retag 0 (fun _ => none) τ) H v s.fr :=
  h.fr retag_ext fun a r o t e => ⟨retag_eq t, e⟩
theorem lget {α : Type} {l : List α} {i j : Nat} {x : α} (h : i ≠ j) : (l.set i x)[j]? = l[j]? := List.getElem?_set_ne h
theorem lset {α : Type} {l : List α} {i : Nat} {x y : α} (h : (l.set i x)[i]? = some y) : y = x := by
  have hi : i < l.length := by
    have := (List.getElem?_eq_some_iff.mp h).1
    simpa using this
  rw [List.getElem?_set_self hi] at h
  exact (Option.some.inj h).symm
/-- the slot i is stored -/
theorem J.store {v : V} {s : S} {i : Nat} (j : J g c τ σ H ρ) (h : W g τ H [0] v s) (hi : i < ρ.length) (hp : i ∉ c.mp) : J g c (retag 0 (fun r => some ((i + 1) :: r)) τ) (σ.set i (some v)) H (ρ.set i (some s)) := by
  refine j.turn (by simpa using j.len) (fun a q e => let ⟨q', z⟩ := retag_some e; j.dom a q' z) retag_ext (retag_grd fun _ h => nomatch h) (fun _ _ => rfl) (fun k s' e => ?_) fun k hk => lget fun z => hp (z ▸ hk)
  by_cases hk : i = k
  · subst hk
    have e2 := Option.some.inj (lset e)
    subst e2
    exact .inr ⟨v, List.getElem?_set_self (by rw [← j.len]; exact hi), h.tr retag_ext retag_mv⟩
  · exact .inl ⟨by rw [lget hk] at e; exact e, lget hk, retag_kp (by omega)⟩
/-- the slot i is read, and what it held is nobody's any more -/
theorem J.thaw {v : V} {s : S} {i : Nat} (j : J g c τ σ H ρ) (hv : σ[i]? = some (some v)) (h : W g τ H [i + 1] v s) : J g c (retag (i + 1) (fun _ => none) τ) σ H (ρ.set i (some (.fz s.fr))) ∧ F g (retag (i + 1) (fun _ => none) τ) H v s.fr := by
  have hf : F g (retag (i + 1) (fun _ => none) τ) H v s.fr := h.fr retag_ext fun a r o t e => ⟨retag_eq t, e⟩
  refine ⟨j.turn (by simpa using j.len) (fun a q e => let ⟨q', z⟩ := retag_some e; j.dom a q' z) retag_ext (retag_grd fun _ h => nomatch h) (fun _ _ => rfl) (fun k s' e => ?_) fun _ _ => rfl, hf⟩
  by_cases hk : i = k
  · subst hk
    have e2 := Option.some.inj (lset e)
    subst e2
    exact .inr ⟨v, hv, .fz hf⟩
  · exact .inl ⟨by rw [lget hk] at e; exact e, rfl, retag_kp (by omega)⟩
/-- the slot i is given up, its thing is on its way -/
theorem J.move {v : V} {s : S} {i : Nat} (j : J g c τ σ H ρ) (h : W g τ H [i + 1] v s) : J g c (retag (i + 1) (fun r => some (0 :: r)) τ) σ H (ρ.set i none) ∧ W g (retag (i + 1) (fun r => some (0 :: r)) τ) H [0] v s := by
  refine ⟨j.turn (by simpa using j.len) (fun a q e => let ⟨q', z⟩ := retag_some e; j.dom a q' z) retag_ext (retag_grd fun _ h => nomatch h) (fun _ _ => rfl) (fun k s' e => ?_) fun _ _ => rfl, h.tr retag_ext retag_mv⟩
  by_cases hk : i = k
  · subst hk
    exact nomatch lset e
  · exact .inl ⟨by rw [lget hk] at e; exact e, rfl, retag_kp (by omega)⟩
/-- a thing just made is on its way -/
theorem J.new {v : V} {s : S} (j : J g c τ σ H ρ) (n : Nw g τ H H' v s) : ∃ τ', Ext τ H τ' H' ∧ J g c τ' σ H' ρ ∧ W g τ' H' [0] v s := by
  obtain ⟨p, H1, rfl, s1, hn, s2, hq⟩ := n
  have hs := s1.trans s2
  have ht : τ p = none := j.free (s1.free hn)
  have ne1 : ∀ {a o}, H1 a = some o → a ≠ p := fun {a o} e z => by rw [z, hn] at e; cases e
  have ne : ∀ {a o}, H a = some o → a ≠ p := fun {a o} e => ne1 (s1 a o e)
  have e1 : Ext τ H1 (tagAt p τ) H' := fun a o t e => ⟨by rw [tagAt_ne (ne1 e)]; exact t, s2 a o e⟩
  refine ⟨tagAt p τ, fun a o t e => ⟨by rw [tagAt_ne (ne e)]; exact t, hs a o e⟩, ?_, ?_⟩
  · refine j.turn j.len (fun a q e => ?_) (fun a o t e => ⟨by rw [tagAt_ne (ne e)]; exact t, hs a o e⟩) (fun a => ?_) (fun a e => ?_) (fun k s' e => .inl ⟨e, rfl, fun a r o t e => ⟨by rw [tagAt_ne (ne e)]; exact t, hs a o e⟩⟩) fun _ _ => rfl
    · by_cases ha : a = p
      · subst ha
        match s, hq with
        | .lst _, ⟨vs, e, _⟩ => exact ⟨_, e⟩
        | .dct false _ _, ⟨vs, e, _⟩ => exact ⟨_, e⟩
        | .dct true _ _, ⟨vs, e, _⟩ => exact ⟨_, e⟩
      · rw [tagAt_ne ha] at e
        obtain ⟨o, z⟩ := j.dom a q e
        exact ⟨o, hs a o z⟩
    · by_cases ha : a = p
      · subst ha
        rw [tagAt_eq, ht]
        exact ⟨(fun h => nomatch h), (fun h => nomatch h)⟩
      · rw [tagAt_ne ha]
    · obtain ⟨o, z⟩ := j.dom a [] e
      rw [z, hs a o z]
  · match s, hq with
    | .lst _, ⟨vs, e, f⟩ => exact .lst e tagAt_eq (f.tr e1)
    | .dct false _ _, ⟨vs, e, rfl, f⟩ => exact .dK e tagAt_eq (f.tr e1)
    | .dct true _ _, ⟨vs, e, rfl, f⟩ => exact .dT e tagAt_eq (f.tr e1)
/-- .. or nobody's -/
theorem J.newF {v : V} {s : S} (j : J g c τ σ H ρ) (n : Nw g τ H H' v s) : F g τ H' v s.fr := by
  obtain ⟨p, H1, rfl, s1, hn, s2, hq⟩ := n
  have ht : τ p = none := j.free (s1.free hn)
  match s, hq with
  | .lst _, ⟨vs, e, f⟩ => exact .lst e ht (f.same s2)
  | .dct false _ _, ⟨vs, e, rfl, f⟩ => exact .dK e ht (f.same s2)
  | .dct true _ _, ⟨vs, e, rfl, f⟩ => exact .dT e ht (f.same s2)
end

/-! ### from one kind of expression to another -/
section
variable {X : Cx} {c : JC} {w : WX} {e : Expr}
def vN (t : TQ) : TV := fun ρ => match t ρ with
  | some s => .ok (s, ρ)
  | none => .bad
def qN (t : TQ) : TQ := fun ρ => (t ρ).map fun s => .fz s.fr
/-- a quiet value that nobody changes -/
def vQ (t : TQ) : TV := fun ρ => match t ρ with
  | some (.fz d) => .ok (.fz d, ρ)
  | _ => .bad
theorem q_new {t : TQ} (h : PE X e (tN (gX X) c t)) : PE X e (tQ (gX X) c (qN t)) := PEw h fun σ H Q ⟨τ, ρ, s, j, e, q⟩ => by
  unfold qN at e
  cases h2 : t ρ with
  | none => rw [h2] at e; cases e
  | some s' =>
    rw [h2] at e
    cases e
    exact ⟨τ, ρ, s', j, h2, fun v H' sm j' n => q v H' [] sm j' (.fz (j.newF n))⟩
theorem v_new {t : TQ} (h : PE X e (tN (gX X) c t)) : PE X e (tV (gX X) c w (vN t)) := PEw h fun σ H Q ⟨τ, ρ, j, q⟩ => by
  unfold vN at q
  cases h2 : t ρ with
  | none => rw [h2] at q; exact q.elim
  | some s' =>
    rw [h2] at q
    exact ⟨τ, ρ, s', j, h2, fun v H' sm j' n => let ⟨τ', h1, h2, h3⟩ := j.new n; q v H' τ' h1 h2 h3⟩
theorem v_q {t : TQ} (h : PE X e (tQ (gX X) c t)) : PE X e (tV (gX X) c w (vQ t)) := PEw h fun σ H Q ⟨τ, ρ, j, q⟩ => by
  unfold vQ at q
  cases h2 : t ρ with
  | none => rw [h2] at q; exact q.elim
  | some s' =>
    rw [h2] at q
    cases s' with
    | fz d => exact ⟨τ, ρ, _, j, h2, fun v H' π sm j' n => q v H' τ (.same sm) j' (.fz n.of_fz)⟩
    | lst _ => exact q.elim
    | dct _ _ _ => exact q.elim
    | obj _ _ _ => exact q.elim

/-! ### names and constants -/
def qVar (i : Nat) : TQ := fun ρ => match ρ[i]? with
  | some (some s) => some s
  | _ => none
def qC (d : D) : TQ := fun _ => some (.fz d)
/-- a name as a value: what it holds is nobody's any more; or it is moved out of its slot -/
def vVar (i : Nat) : TV := fun ρ => match ρ[i]? with
  | some (some s) => .ok (.fz s.fr, ρ.set i (some (.fz s.fr)))
  | _ => .bad
def vMove (i : Nat) : TV := fun ρ => match ρ[i]? with
  | some (some s) => .ok (s, ρ.set i none)
  | _ => .bad
theorem qVar_eq {i : Nat} {ρ : Env} {s : S} (h : qVar i ρ = some s) : ρ[i]? = some (some s) := by
  unfold qVar at h
  split at h
  · rename_i s' e; cases h; exact e
  · cases h
theorem q_var {i : Nat} {x : Str} {pos : Pos} (h : PE X (.Name x pos) (tVar i)) : PE X (.Name x pos) (tQ (gX X) c (qVar i)) := PEw h fun σ H Q ⟨τ, ρ, s, j, e, q⟩ => by
  obtain ⟨v, a, b⟩ := j.env i s (qVar_eq e)
  exact ⟨v, a, q v H _ (.refl H) j b⟩
theorem v_var {i : Nat} {x : Str} {pos : Pos} (h : PE X (.Name x pos) (tVar i)) : PE X (.Name x pos) (tV (gX X) c w (vVar i)) := PEw h fun σ H Q ⟨τ, ρ, j, q⟩ => by
  unfold vVar at q
  cases e : ρ[i]? with
  | none => rw [e] at q; exact q.elim
  | some o =>
    rw [e] at q
    cases o with
    | none => exact q.elim
    | some s =>
      obtain ⟨v, a, b⟩ := j.env i s e
      obtain ⟨j', f⟩ := j.thaw a b
      exact ⟨v, a, q v H _ retag_ext j' (.fz f)⟩
theorem v_move {i : Nat} {x : Str} {pos : Pos} (h : PE X (.Name x pos) (tVar i)) : PE X (.Name x pos) (tV (gX X) c w (vMove i)) := PEw h fun σ H Q ⟨τ, ρ, j, q⟩ => by
  unfold vMove at q
  cases e : ρ[i]? with
  | none => rw [e] at q; exact q.elim
  | some o =>
    rw [e] at q
    cases o with
    | none => exact q.elim
    | some s =>
      obtain ⟨v, a, b⟩ := j.env i s e
      obtain ⟨j', f⟩ := j.move b
      exact ⟨v, a, q v H _ retag_ext j' f⟩
theorem q_c {v : V} {d : D} (h : PE X e (tC v)) (hf : ∀ τ H, F (gX X) τ H v d) : PE X e (tQ (gX X) c (qC d)) := PEw h fun σ H Q ⟨τ, ρ, s, j, e, q⟩ => by
  cases e
  exact q v H [] (.refl H) j (.fz (hf τ H))
theorem q_int {i : Int} {n pos} : PE X (.Constant (.int i) n pos) (tQ (gX X) c (qC (.int i))) := q_c pe_int fun _ _ => .int i
theorem q_bl {b : Bool} {n pos} : PE X (.Constant (.bool b) n pos) (tQ (gX X) c (qC (.bl b))) := q_c pe_bl fun _ _ => .bl b
theorem q_non {n pos} : PE X (.Constant .none n pos) (tQ (gX X) c (qC .non)) := q_c pe_non fun _ _ => .non
theorem q_str {x : Str} {n pos} (h : PyData.strOk x = true := by decide +kernel) : PE X (.Constant (.str x) n pos) (tQ (gX X) c (qC (.str x))) := q_c pe_str fun _ _ => .str x h
end
end VS
namespace VS
open PySem PySem.Spec PyProof.Rows L2

/-! ### statements -/
def R.st {α : Type} (r : R (α × Env)) (k : α → Env → Out) : Out := match r with
  | .ok (a, ρ) => k a ρ
  | .exc x ρ => .exc x ρ
  | .bad => .bad
def R.th {α β : Type} (r : R (α × Env)) (k : α → Env → R β) : R β := match r with
  | .ok (a, ρ) => k a ρ
  | .exc x ρ => .exc x ρ
  | .bad => .bad
def Out.th (o : Out) (k : Env → Out) : Out := match o with
  | .nx ρ => k ρ
  | o => o
def sSet (i : Nat) (t : TV) : TSt := fun ρ => (t ρ).st fun s ρ' => .nx (ρ'.set i (some s))
def sRet (t : TV) : TSt := fun ρ => (t ρ).st fun s ρ' => .rt s ρ'
def sRetN : TSt := fun ρ => .rt (.fz .non) ρ
def sDrop (t : TV) : TSt := fun ρ => (t ρ).st fun _ ρ' => .nx ρ'
def sPass : TSt := fun ρ => .nx ρ
def sBrk : TSt := fun ρ => .bk ρ
def sCnt : TSt := fun ρ => .ct ρ
def sSeq (a b : TSt) : TSt := fun ρ => (a ρ).th b
abbrev TB := Env → R (Bool × Env)
def sIf (b : TB) (t u : TSt) : TSt := fun ρ => (b ρ).st fun k ρ' => if k then t ρ' else u ρ'

theorem set_big {α : Type} {l : List α} {i : Nat} {x : α} (h : ¬ i < l.length) : l.set i x = l := List.set_eq_of_length_le (Nat.le_of_not_lt h)
section
variable {X : Cx} {c : JC} {w : WX} {pos : Pos}
theorem st_set {i : Nat} {st : Stmt} {te : TE} {t : TV} (h : PS X st (tAsg te (gName i))) (hw : ∀ σ H Q, tV (gX X) c w t σ H Q → te σ H Q) (hp : i ∉ c.mp := by exact of_decide_eq_true rfl) : PS X st (tS (gX X) c w (sSet i t)) := PSw h fun Dn σ H ⟨τ, ρ, j, q⟩ => by
  show te σ H fun x H1 => gName i x σ H1 Dn.nx
  refine hw σ H _ ⟨τ, ρ, j, ?_⟩
  unfold sSet at q
  cases e : t ρ with
  | bad => rw [e] at q; exact q
  | exc x ρ' => rw [e] at q; exact fun cls d H' τ' h1 h2 h3 => q cls d τ' σ H' h1 h2 h3
  | ok z =>
    obtain ⟨s, ρ'⟩ := z
    rw [e] at q
    intro v H' τ' h1 h2 h3
    show Dn.nx (σ.set i (some v)) H'
    by_cases hi : i < ρ'.length
    · exact q _ _ _ (h1.trans retag_ext) (h2.store h3 hi hp)
    · refine q τ' (σ.set i (some v)) H' h1 ?_
      rw [set_big (l := ρ') hi, set_big (l := σ) (by rw [← h2.len]; exact hi)]
      exact h2
theorem s_set {i : Nat} {x : Str} {e : Expr} {t : TV} {pos' : Pos} (hN : X.N.Nodup) (hi : X.N[i]? = some x) (hx : Loc X.env.scope x) (he : PE X e (tV (gX X) c w t)) (hp : i ∉ c.mp := by exact of_decide_eq_true rfl) (hs : swapsWith e (some (.Name x pos')) pos.line X.env = pure false := by rfl)
    (hf : X.fn x = true ∨ X.env.scope.names.lookup x = some .local := by first | exact .inl rfl | exact .inr rfl | assumption) : PS X (.Assign [.Name x pos'] e pos) (tS (gX X) c w (sSet i t)) :=
  st_set (ps_set hN hi hx he hs hf) (fun _ _ _ h => h) hp
theorem s_ret {e : Expr} {t : TV} (he : PE X e (tV (gX X) c w t)) : PS X (.Return (some e) pos) (tS (gX X) c w (sRet t)) := PSw (ps_ret he) fun Dn σ H ⟨τ, ρ, j, q⟩ => by
  refine ⟨τ, ρ, j, ?_⟩
  unfold sRet at q
  cases e : t ρ with
  | bad => rw [e] at q; exact q
  | exc x ρ' => rw [e] at q; exact fun cls d H' τ' h1 h2 h3 => q cls d τ' σ H' h1 h2 h3
  | ok z =>
    obtain ⟨s, ρ'⟩ := z
    rw [e] at q
    exact fun v H' τ' h1 h2 h3 => q τ' σ v H' h1 h2 h3
theorem s_retN : PS X (.Return none pos) (tS (gX X) c w sRetN) := PSw ps_retN fun Dn σ H ⟨τ, ρ, j, q⟩ => q τ σ .non H .refl j (.fz .non)
theorem s_drop {e : Expr} {t : TV} (he : PE X e (tV (gX X) c w t)) (hs : swapsWith e none pos.line X.env = pure false := by rfl) : PS X (.Expr e pos) (tS (gX X) c w (sDrop t)) := PSw (ps_expr he hs) fun Dn σ H ⟨τ, ρ, j, q⟩ => by
  refine ⟨τ, ρ, j, ?_⟩
  unfold sDrop at q
  cases e : t ρ with
  | bad => rw [e] at q; exact q
  | exc x ρ' => rw [e] at q; exact fun cls d H' τ' h1 h2 h3 => q cls d τ' σ H' h1 h2 h3
  | ok z =>
    obtain ⟨s, ρ'⟩ := z
    rw [e] at q
    exact fun v H' τ' h1 h2 h3 => q τ' σ H' h1 h2
theorem s_pass : PS X (.Pass pos) (tS (gX X) c w sPass) := PSw ps_pass fun Dn σ H ⟨τ, ρ, j, q⟩ => q τ σ H .refl j
theorem s_brk : PS X (.Break pos) (tS (gX X) c w sBrk) := PSw ps_break fun Dn σ H ⟨τ, ρ, j, q⟩ => q τ σ H .refl j
theorem s_cnt : PS X (.Continue pos) (tS (gX X) c w sCnt) := PSw ps_continue fun Dn σ H ⟨τ, ρ, j, q⟩ => q τ σ H .refl j
theorem s_doc {x j pos pos'} : PS X (.Expr (.Constant (.str x) j pos) pos') (tS (gX X) c w sPass) := PSw ps_doc fun Dn σ H ⟨τ, ρ, j, q⟩ => q τ σ H .refl j
theorem ss_nil : PSs X [] (tS (gX X) c w sPass) := PSsw pss_nil fun Dn σ H ⟨τ, ρ, j, q⟩ => q τ σ H .refl j
/-- what is wanted behind an outcome -/
def After (g : Gm) (c : JC) (w : WX) (Dn : Ends) (τ : Tg) (H : Hp) (o : Out) : Prop := match o with
  | .nx ρ' => ∀ τ' σ' H', Ext τ H τ' H' → J g c τ' σ' H' ρ' → Dn.nx σ' H'
  | .rt s ρ' => ∀ τ' σ' v H', Ext τ H τ' H' → J g c τ' σ' H' ρ' → W g τ' H' [0] v s → Dn.rt v H'
  | .bk ρ' => ∀ τ' σ' H', Ext τ H τ' H' → J g c τ' σ' H' ρ' → Dn.bk σ' H'
  | .ct ρ' => ∀ τ' σ' H', Ext τ H τ' H' → J g c τ' σ' H' ρ' → Dn.ct σ' H'
  | .exc x ρ' => ∀ cls d τ' σ' H', Ext τ H τ' H' → J g c τ' σ' H' ρ' → XR g τ' H' x cls d → w cls d σ' H'
  | .bad => False
theorem tS_iff {g : Gm} {t : TSt} {Dn : Ends} {σ : L2.St} {H : Hp} : tS g c w t Dn σ H ↔ ∃ τ ρ, J g c τ σ H ρ ∧ After g c w Dn τ H (t ρ) := by
  constructor
  · rintro ⟨τ, ρ, j, q⟩
    exact ⟨τ, ρ, j, by unfold After; exact q⟩
  · rintro ⟨τ, ρ, j, q⟩
    exact ⟨τ, ρ, j, by unfold After at q; exact q⟩
theorem After.ext {g : Gm} {Dn : Ends} {τ τ1 : Tg} {H H1 : Hp} {o : Out} (h : After g c w Dn τ H o) (e : Ext τ H τ1 H1) : After g c w Dn τ1 H1 o := by
  cases o with
  | nx ρ => exact fun τ' σ' H' a b => h τ' σ' H' (e.trans a) b
  | rt s ρ => exact fun τ' σ' v H' a b => h τ' σ' v H' (e.trans a) b
  | bk ρ => exact fun τ' σ' H' a b => h τ' σ' H' (e.trans a) b
  | ct ρ => exact fun τ' σ' H' a b => h τ' σ' H' (e.trans a) b
  | exc x ρ => exact fun cls d τ' σ' H' a b => h cls d τ' σ' H' (e.trans a) b
  | bad => exact h
/-- the ends of a part, its way on changed -/
theorem After.nx {g : Gm} {Dn : Ends} {N : L2.St → Hp → Prop} {τ : Tg} {H : Hp} {o : Out} (h : ∀ ρ', o = .nx ρ' → ∀ τ' σ' H', Ext τ H τ' H' → J g c τ' σ' H' ρ' → N σ' H') (k : (∀ ρ', o ≠ .nx ρ') → After g c w Dn τ H o) : After g c w { Dn with nx := N } τ H o := by
  cases o with
  | nx ρ => exact h ρ rfl
  | rt s ρ => exact k fun _ z => nomatch z
  | bk ρ => exact k fun _ z => nomatch z
  | ct ρ => exact k fun _ z => nomatch z
  | exc x ρ => exact k fun _ z => nomatch z
  | bad => exact k fun _ z => nomatch z
theorem ss_cons {st : Stmt} {rest : List Stmt} {a b : TSt} (h1 : PS X st (tS (gX X) c w a)) (h2 : PSs X rest (tS (gX X) c w b)) : PSs X (st :: rest) (tS (gX X) c w (sSeq a b)) := PSsw (pss_cons h1 h2) fun Dn σ H q => by
  obtain ⟨τ, ρ, j, q⟩ := tS_iff.mp q
  refine tS_iff.mpr ⟨τ, ρ, j, ?_⟩
  unfold sSeq at q
  refine After.nx (fun ρ' e τ' σ' H' h1 j' => ?_) fun hn => ?_
  · rw [e] at q
    exact tS_iff.mpr ⟨τ', ρ', j', q.ext h1⟩
  · cases e : a ρ with
    | nx ρ' => exact absurd e (hn ρ')
    | rt s ρ' => rw [e] at q; exact q
    | bk ρ' => rw [e] at q; exact q
    | ct ρ' => rw [e] at q; exact q
    | exc x ρ' => rw [e] at q; exact q
    | bad => rw [e] at q; exact q
theorem ss_one {st : Stmt} {a : TSt} (h1 : PS X st (tS (gX X) c w a)) : PSs X [st] (tS (gX X) c w a) := PSsw (pss_one h1) fun _ _ _ q => q
theorem s_if {e : Expr} {a b : List Stmt} {k : TB} {t u : TSt} (hc : PT X e (tTV (gX X) c w k)) (ha : PSs X a (tS (gX X) c w t)) (hb : PSs X b (tS (gX X) c w u)) : PS X (.If e a b pos) (tS (gX X) c w (sIf k t u)) := PSw (ps_if hc ha hb) fun Dn σ H q => by
  obtain ⟨τ, ρ, j, q⟩ := tS_iff.mp q
  refine ⟨τ, ρ, j, ?_⟩
  unfold sIf at q
  cases e : k ρ with
  | bad => rw [e] at q; exact q
  | exc x ρ' => rw [e] at q; exact fun cls d H' τ' h1 h2 h3 => q cls d τ' σ H' h1 h2 h3
  | ok z =>
    obtain ⟨b, ρ'⟩ := z
    rw [e] at q
    intro H' τ' h1 h2
    cases b with
    | true => exact tS_iff.mpr ⟨τ', ρ', h2, After.ext q h1⟩
    | false => exact tS_iff.mpr ⟨τ', ρ', h2, After.ext q h1⟩

/-! ### tests -/
/-- a value's truth -/
def D.tru : D → Option Bool
  | .non => some false
  | .bl b => some b
  | .int i => some (i != 0)
  | .str x => if x.length ≤ sizeLine then some ((x.length : Int) != 0) else none
  | .tup ds => some !ds.isEmpty
  | .lst ds => some !ds.isEmpty
  | .dct false ks _ => some !ks.isEmpty
  | _ => none
def S.tru : S → Option Bool
  | .fz d => d.tru
  | .lst ds => some !ds.isEmpty
  | .dct false ks _ => some !ks.isEmpty
  | _ => none
def bQ (t : TQ) : TB := fun ρ => match t ρ with
  | some s => (match s.tru with
    | some b => .ok (b, ρ)
    | none => .bad)
  | none => .bad
def bV (t : TV) : TB := fun ρ => (t ρ).th fun s ρ' => match s.tru with
    | some b => .ok (b, ρ')
    | none => .bad
theorem Fs.emp {g : Gm} {τ : Tg} {H : Hp} {vs : List V} {ds : List D} (h : Fs g τ H vs ds) : (!ds.isEmpty) = !vs.isEmpty := by
  cases h <;> rfl
theorem F.tru {g : Gm} {τ : Tg} {H : Hp} {v : V} {d : D} {b : Bool} (h : F g τ H v d) (e : d.tru = some b) : TruV g.K v H b := by
  cases h with
  | non => simp only [D.tru, Option.some.injEq] at e; exact e.symm
  | bl k => simp only [D.tru, Option.some.injEq] at e; exact e.symm
  | int i => simp only [D.tru, Option.some.injEq] at e; exact e.symm
  | str x hx =>
    simp only [D.tru] at e
    by_cases hl : x.length ≤ sizeLine
    · rw [if_pos hl] at e
      exact ⟨hl, (Option.some.inj e).symm⟩
    · rw [if_neg hl] at e; cases e
  | tup h1 h2 h3 =>
    simp only [D.tru, Option.some.injEq] at e
    exact .inr (.inl ⟨_, .inl (.inl h1), by rw [← e, h3.emp]⟩)
  | lst h1 h2 h3 =>
    simp only [D.tru, Option.some.injEq] at e
    exact .inl ⟨_, .inl (.inl h1), by rw [← e, h3.emp]⟩
  | dK h1 h2 h3 =>
    simp only [D.tru, Option.some.injEq] at e
    exact .inr (.inr ⟨_, h1, by rw [← e]; simp⟩)
  | dT h1 h2 h3 => simp [D.tru] at e
  | obj h1 h2 h3 h4 => simp [D.tru] at e
  | scr h => simp [D.tru] at e
theorem W.tru {g : Gm} {τ : Tg} {H : Hp} {π : List Nat} {v : V} {s : S} {b : Bool} (h : W g τ H π v s) (e : s.tru = some b) : TruV g.K v H b := by
  cases h with
  | fz f => exact f.tru e
  | lst h1 h2 h3 =>
    simp only [S.tru, Option.some.injEq] at e
    exact .inl ⟨_, .inl (.inl h1), by rw [← e, h3.emp]⟩
  | dK h1 h2 h3 =>
    simp only [S.tru, Option.some.injEq] at e
    exact .inr (.inr ⟨_, h1, by rw [← e]; simp⟩)
  | dT h1 h2 h3 => simp [S.tru] at e
  | obj h1 h2 h3 h4 => simp [S.tru] at e
theorem b_q {e : Expr} {t : TQ} (h : PE X e (tQ (gX X) c t)) (he : ∀ whole, isTrue e X.env whole = (do let v ← whole; standAt e.pos; holding [v] (truthy v)) := by intro _; rfl) : PT X e (tTV (gX X) c w (bQ t)) := PTw (pt_truth h he) fun σ H Q ⟨τ, ρ, j, q⟩ => by
  unfold bQ at q
  cases e1 : t ρ with
  | none => rw [e1] at q; exact q.elim
  | some s =>
    rw [e1] at q
    dsimp only at q
    cases e2 : s.tru with
    | none => rw [e2] at q; exact q.elim
    | some b =>
      rw [e2] at q
      exact ⟨τ, ρ, s, j, e1, fun v H' π sm j' hw => ⟨b, hw.tru e2, q H' τ (.same sm) j'⟩⟩
theorem b_v {e : Expr} {t : TV} (h : PE X e (tV (gX X) c w t)) (he : ∀ whole, isTrue e X.env whole = (do let v ← whole; standAt e.pos; holding [v] (truthy v)) := by intro _; rfl) : PT X e (tTV (gX X) c w (bV t)) := PTw (pt_truth h he) fun σ H Q ⟨τ, ρ, j, q⟩ => by
  refine ⟨τ, ρ, j, ?_⟩
  unfold bV at q
  cases e1 : t ρ with
  | bad => rw [e1] at q; exact q
  | exc x ρ' => rw [e1] at q; exact q
  | ok z =>
    obtain ⟨s, ρ'⟩ := z
    rw [e1] at q
    dsimp only [R.th] at q
    cases e2 : s.tru with
    | none => rw [e2] at q; exact q.elim
    | some b =>
      rw [e2] at q
      exact fun v H' τ' h1 h2 h3 => ⟨b, h3.tru e2, q H' τ' h1 h2⟩
/-- a comparison (its value a bool) as a test -/
def S.bl? : S → Option Bool
  | .fz (.bl b) => some b
  | _ => none
theorem W.bl {g : Gm} {τ : Tg} {H : Hp} {π : List Nat} {v : V} {s : S} {b : Bool} (h : W g τ H π v s) (e : s.bl? = some b) : v = .bl b := by
  cases h with
  | fz f => cases f <;> first | (cases e; rfl) | cases e
  | lst => cases e
  | dK => cases e
  | dT => cases e
  | obj => cases e
def bC (t : TV) : TB := fun ρ => (t ρ).th fun s ρ' => match s.bl? with
    | some b => .ok (b, ρ')
    | none => .bad
theorem b_c {e : Expr} {te : TE} {t : TV} (h : PT X e (tB te)) (hw : ∀ σ H Q, tV (gX X) c w t σ H Q → te σ H Q) : PT X e (tTV (gX X) c w (bC t)) := PTw h fun σ H Q ⟨τ, ρ, j, q⟩ => by
  refine hw σ H _ ⟨τ, ρ, j, ?_⟩
  unfold bC at q
  cases e1 : t ρ with
  | bad => rw [e1] at q; exact q
  | exc x ρ' => rw [e1] at q; exact q
  | ok z =>
    obtain ⟨s, ρ'⟩ := z
    rw [e1] at q
    dsimp only [R.th] at q
    cases e2 : s.bl? with
    | none => rw [e2] at q; exact q.elim
    | some b =>
      rw [e2] at q
      exact fun v H' τ' h1 h2 h3 => ⟨b, h3.bl e2, q H' τ' h1 h2⟩
def bAnd (a b : TB) : TB := fun ρ => (a ρ).th fun k ρ' => if k then b ρ' else .ok (false, ρ')
def bOr (a b : TB) : TB := fun ρ => (a ρ).th fun k ρ' => if k then .ok (true, ρ') else b ρ'
def bNot (a : TB) : TB := fun ρ => (a ρ).th fun k ρ' => .ok (!k, ρ')
theorem tTV_ext {g : Gm} {k : TB} {σ : L2.St} {H H1 : Hp} {Q : Bool → Hp → Prop} {τ τ1 : Tg} {ρ1 : Env} (j : J g c τ1 σ H1 ρ1) (e : Ext τ H τ1 H1) (h : match k ρ1 with
  | .ok (b, ρ') => ∀ H' τ', Ext τ H τ' H' → J g c τ' σ H' ρ' → Q b H'
  | .exc x ρ' => ∀ cls d H' τ', Ext τ H τ' H' → J g c τ' σ H' ρ' → XR g τ' H' x cls d → w cls d σ H'
  | .bad => False) : tTV g c w k σ H1 Q := by
  refine ⟨τ1, ρ1, j, ?_⟩
  cases e1 : k ρ1 with
  | bad => rw [e1] at h; exact h
  | exc x ρ' => rw [e1] at h; exact fun cls d H' τ' a b => h cls d H' τ' (e.trans a) b
  | ok z =>
    obtain ⟨b, ρ'⟩ := z
    rw [e1] at h
    exact fun H' τ' a b => h H' τ' (e.trans a) b
theorem w_and1 {e : Expr} {a : TB} (h : PT X e (tTV (gX X) c w a)) : PW X (.BoolOp .And [e] pos) (tTV (gX X) c w a) := PWw (pw_and1 h) fun _ _ _ q => q
theorem w_or1 {e : Expr} {a : TB} (h : PT X e (tTV (gX X) c w a)) : PW X (.BoolOp .Or [e] pos) (tTV (gX X) c w a) := PWw (pw_or1 h) fun _ _ _ q => q
theorem w_and {e e' : Expr} {rest : List Expr} {a b : TB} (ha : PT X e (tTV (gX X) c w a)) (hb : PW X (.BoolOp .And (e' :: rest) pos) (tTV (gX X) c w b)) : PW X (.BoolOp .And (e :: e' :: rest) pos) (tTV (gX X) c w (bAnd a b)) := PWw (pw_and ha hb) fun σ H Q ⟨τ, ρ, j, q⟩ => by
  refine ⟨τ, ρ, j, ?_⟩
  unfold bAnd at q
  cases e1 : a ρ with
  | bad => rw [e1] at q; exact q
  | exc x ρ' => rw [e1] at q; exact q
  | ok z =>
    obtain ⟨k, ρ'⟩ := z
    rw [e1] at q
    intro H' τ' h1 h2
    cases k with
    | true => exact tTV_ext h2 h1 q
    | false => exact q H' τ' h1 h2
theorem w_or {e e' : Expr} {rest : List Expr} {a b : TB} (ha : PT X e (tTV (gX X) c w a)) (hb : PW X (.BoolOp .Or (e' :: rest) pos) (tTV (gX X) c w b)) : PW X (.BoolOp .Or (e :: e' :: rest) pos) (tTV (gX X) c w (bOr a b)) := PWw (pw_or ha hb) fun σ H Q ⟨τ, ρ, j, q⟩ => by
  refine ⟨τ, ρ, j, ?_⟩
  unfold bOr at q
  cases e1 : a ρ with
  | bad => rw [e1] at q; exact q
  | exc x ρ' => rw [e1] at q; exact q
  | ok z =>
    obtain ⟨k, ρ'⟩ := z
    rw [e1] at q
    intro H' τ' h1 h2
    cases k with
    | false => exact tTV_ext h2 h1 q
    | true => exact q H' τ' h1 h2
theorem b_not {e : Expr} {a : TB} (ha : PT X e (tTV (gX X) c w a)) : PT X (.UnaryOp .Not e pos) (tTV (gX X) c w (bNot a)) := PTw (pt_not ha) fun σ H Q ⟨τ, ρ, j, q⟩ => by
  refine ⟨τ, ρ, j, ?_⟩
  unfold bNot at q
  cases e1 : a ρ with
  | bad => rw [e1] at q; exact q
  | exc x ρ' => rw [e1] at q; exact q
  | ok z =>
    obtain ⟨k, ρ'⟩ := z
    rw [e1] at q
    exact fun H' τ' h1 h2 => q H' τ' h1 h2

/-! ### while, at most n turns -/
def whileL (b : TB) (t : TSt) : Nat → Env → Out
  | 0, _ => .bad
  | n + 1, ρ => (b ρ).st fun k ρ' => if k then (match t ρ' with
    | .nx ρ2 => whileL b t n ρ2
    | .ct ρ2 => whileL b t n ρ2
    | .bk ρ2 => .nx ρ2
    | o => o) else .nx ρ'
def sWhile (n : Nat) (b : TB) (t : TSt) : TSt := whileL b t n
theorem s_while {e : Expr} {body : List Stmt} {b : TB} {t : TSt} (n : Nat) (hp : PassesOwn (model X.prog X.w) X.A X.env X.xe) (hc : PT X e (tTV (gX X) c w b)) (hb : PSs X body (tS (gX X) c w t)) : PS X (.While e body [] pos) (tS (gX X) c w (sWhile n b t)) := PSw (ps_while hp hc hb) fun Dn σ H0 q => by
  obtain ⟨τ0, ρ0, j0, q0⟩ := tS_iff.mp q
  refine ⟨fun m σ H => ∃ τ ρ, J (gX X) c τ σ H ρ ∧ Ext τ0 H0 τ H ∧ After (gX X) c w Dn τ H (whileL b t m ρ), ⟨n, τ0, ρ0, j0, .refl, q0⟩, ?_⟩
  rintro m σ1 H1 ⟨τ, ρ, j, ex, q⟩
  cases m with
  | zero => exact q.elim
  | succ m =>
    refine ⟨τ, ρ, j, ?_⟩
    unfold whileL at q
    cases e1 : b ρ with
    | bad => rw [e1] at q; exact q
    | exc x ρ' => rw [e1] at q; exact fun cls d H' τ' h1 h2 h3 => q cls d τ' σ1 H' h1 h2 h3
    | ok z =>
      obtain ⟨k, ρ'⟩ := z
      rw [e1] at q
      intro H' τ' h1 h2
      cases k with
      | false => exact q τ' σ1 H' h1 h2
      | true =>
        simp only [R.st, if_true] at q ⊢
        refine ⟨fun σ2 H2 => ∃ τ2 ρ2, J (gX X) c τ2 σ2 H2 ρ2 ∧ Ext τ' H' τ2 H2 ∧ After (gX X) c w Dn τ2 H2 (whileL b t m ρ2), fun σ2 H2 ⟨τ2, ρ2, j2, ex2, q2⟩ => ⟨m, Nat.lt_succ_self m, τ2, ρ2, j2, (ex.trans h1).trans ex2, q2⟩, tS_iff.mpr ⟨τ', ρ', h2, ?_⟩⟩
        cases e2 : t ρ' with
        | bad => rw [e2] at q; exact q
        | nx ρ2 => rw [e2] at q; exact fun τ2 σ2 H2 a b => ⟨τ2, ρ2, b, a, After.ext (After.ext q h1) a⟩
        | ct ρ2 => rw [e2] at q; exact fun τ2 σ2 H2 a b => ⟨τ2, ρ2, b, a, After.ext (After.ext q h1) a⟩
        | bk ρ2 => rw [e2] at q; exact fun τ2 σ2 H2 a b => q τ2 σ2 H2 (h1.trans a) b
        | rt s ρ2 => rw [e2] at q; exact fun τ2 σ2 v H2 a b => q τ2 σ2 v H2 (h1.trans a) b
        | exc x ρ2 => rw [e2] at q; exact fun cls d τ2 σ2 H2 a b => q cls d τ2 σ2 H2 (h1.trans a) b

/-! ### for -/
/-- the items of what is walked -/
abbrev TIt := Env → R (List D × Env)
def Walks (g : Gm) (Jt : It) (τ : Tg) (H : Hp) (ds : List D) : Prop := ∀ (i : Nat) (τ2 : Tg) (H2 : Hp), Ext τ H τ2 H2 → (∀ a q, τ2 a = some q → ∃ o, H2 a = some o) →
  (∀ d, ds[i]? = some d → Jt.go i H2 ∧ ∀ x H3, Jt.yld i H2 x H3 → Same H2 H3 ∧ F g τ2 H3 x d) ∧ (ds[i]? = none → Jt.stop i H2)
def tI (g : Gm) (c : JC) (w : WX) (t : TIt) : TI := fun σ H Q => ∃ τ ρ, J g c τ σ H ρ ∧ match t ρ with
  | .ok (ds, ρ') => ∀ Jt H' τ', Ext τ H τ' H' → J g c τ' σ H' ρ' → Walks g Jt τ' H' ds → Q Jt H'
  | .exc x ρ' => ∀ cls d H' τ', Ext τ H τ' H' → J g c τ' σ H' ρ' → XR g τ' H' x cls d → w cls d σ H'
  | .bad => False
theorem PIw {X : Cx} {tg iter : Expr} {t t' : TI} (h : PI X tg iter t) (k : ∀ σ H Q, t' σ H Q → t σ H Q) : PI X tg iter t' := ⟨fun pins s σ H R I q => h.run pins s σ H R I (k σ H R q)⟩
/-- the same but for these slots -/
structure Alike (sl : List Nat) (σ σ' : L2.St) : Prop where
  len : σ'.length = σ.length
  at_ : ∀ i, i ∉ sl → σ'[i]? = σ[i]?
/-- a target -/
abbrev TAs := D → Env → Option Env
def tG (g : Gm) (c : JC) (sl : List Nat) (t : TAs) : TG := fun v σ H Q => ∃ τ ρ d ρ', J g c τ σ H ρ ∧ F g τ H v d ∧ t d ρ = some ρ' ∧ ∀ σ', Alike sl σ σ' → J g c τ σ' H ρ' → Q σ' H
theorem PGw {X : Cx} {tg : Expr} {t t' : TG} (h : PG X tg t) (k : ∀ v σ H Q, t' v σ H Q → t v σ H Q) : PG X tg t' := by
  have hr := h.run
  exact ⟨fun pins s σ H x u Q I r q => hr pins s σ H x u Q I r (k x σ H Q q)⟩
def forL (a : TAs) (t : TSt) : List D → Env → Out
  | [], ρ => .nx ρ
  | d :: ds, ρ => match a d ρ with
    | none => .bad
    | some ρ1 => (match t ρ1 with
      | .nx ρ2 => forL a t ds ρ2
      | .ct ρ2 => forL a t ds ρ2
      | .bk ρ2 => .nx ρ2
      | o => o)
def sFor (it : TIt) (a : TAs) (t : TSt) : TSt := fun ρ => (it ρ).st fun ds ρ' => forL a t ds ρ'
theorem s_for {tg iter : Expr} {body : List Stmt} {sl : List Nat} {it : TIt} {a : TAs} {t : TSt} (hp : PassesOwn (model X.prog X.w) X.A X.env X.xe) (hc : X.calm = true) (hi : PI X tg iter (tI (gX X) c w it)) (hg : PG X tg (tG (gX X) c sl a)) (hb : PSs X body (tS (gX X) c w t))
    (hs : ∀ x, foldedSetIterable iter X.env x = pure x := by intro _; rfl) : PS X (.For tg iter body [] pos) (tS (gX X) c w (sFor it a t)) := PSw (ps_for hp hc hi hg hb hs) fun Dn σ H q => by
  obtain ⟨τ0, ρ0, j0, q0⟩ := tS_iff.mp q
  refine ⟨τ0, ρ0, j0, ?_⟩
  unfold sFor at q0
  cases e0 : it ρ0 with
  | bad => rw [e0] at q0; exact q0
  | exc x ρ' => rw [e0] at q0; exact fun cls d H' τ' h1 h2 h3 => q0 cls d τ' σ H' h1 h2 h3
  | ok z =>
    obtain ⟨ds, ρ1⟩ := z
    rw [e0] at q0
    intro Jt H1 τ1 ex1 j1 hw
    refine ⟨fun i m σ2 H2 => m = ds.length - i ∧ ∃ τ2 ρ2, J (gX X) c τ2 σ2 H2 ρ2 ∧ Ext τ1 H1 τ2 H2 ∧ After (gX X) c w Dn τ2 H2 (forL a t (ds.drop i) ρ2), ⟨_, rfl, τ1, ρ1, j1, .refl, After.ext q0 ex1⟩, ?_⟩
    rintro i m σ2 H2 ⟨rfl, τ2, ρ2, j2, ex2, q2⟩
    obtain ⟨h1, h2⟩ := hw i τ2 H2 ex2 j2.dom
    cases e1 : ds[i]? with
    | none =>
      left
      have hl : ds.length ≤ i := List.getElem?_eq_none_iff.mp e1
      rw [List.drop_eq_nil_of_le hl] at q2
      exact ⟨h2 e1, q2 τ2 σ2 H2 .refl j2⟩
    | some d =>
      right
      obtain ⟨go, yl⟩ := h1 d e1
      obtain ⟨hlt, ed⟩ := List.getElem?_eq_some_iff.mp e1
      refine ⟨go, fun σ3 H3 => ∃ τ3 ρ3, J (gX X) c τ3 σ3 H3 ρ3 ∧ Ext τ1 H1 τ3 H3 ∧ After (gX X) c w Dn τ3 H3 (forL a t (ds.drop (i + 1)) ρ3), fun σ3 H3 ⟨τ3, ρ3, j3, ex3, q3⟩ => ⟨_, by omega, rfl, τ3, ρ3, j3, ex3, q3⟩, fun x H3 hy => ?_⟩
      obtain ⟨sm, f⟩ := yl x H3 hy
      rw [List.drop_eq_getElem_cons hlt, ed] at q2
      unfold forL at q2
      cases e2 : a d ρ2 with
      | none => rw [e2] at q2; exact q2.elim
      | some ρ3 =>
        rw [e2] at q2
        refine ⟨τ2, ρ2, d, ρ3, j2.same sm, f, e2, fun σ3 _ j3 => tS_iff.mpr ⟨τ2, ρ3, j3, ?_⟩⟩
        have ex3 := ex2.trans (Ext.same sm)
        dsimp only at q2
        cases e3 : t ρ3 with
        | bad => rw [e3] at q2; exact q2
        | nx ρ4 => rw [e3] at q2; exact fun τ4 σ4 H4 p q => ⟨τ4, ρ4, q, ex3.trans p, After.ext (After.ext q2 (.same sm)) p⟩
        | ct ρ4 => rw [e3] at q2; exact fun τ4 σ4 H4 p q => ⟨τ4, ρ4, q, ex3.trans p, After.ext (After.ext q2 (.same sm)) p⟩
        | bk ρ4 => rw [e3] at q2; exact fun τ4 σ4 H4 p q => q2 τ4 σ4 H4 ((Ext.same sm).trans p) q
        | rt s ρ4 => rw [e3] at q2; exact fun τ4 σ4 v H4 p q => q2 τ4 σ4 v H4 ((Ext.same sm).trans p) q
        | exc x ρ4 => rw [e3] at q2; exact fun cls dd τ4 σ4 H4 p q => q2 cls dd τ4 σ4 H4 ((Ext.same sm).trans p) q

/-! ### targets -/
def aName (i : Nat) : TAs := fun d ρ => some (ρ.set i (some (.fz d)))
theorem J.storeF {g : Gm} {τ : Tg} {σ : L2.St} {H : Hp} {ρ : Env} {v : V} {d : D} {i : Nat} (j : J g c τ σ H ρ) (h : F g τ H v d) (hp : i ∉ c.mp) : J g c τ (σ.set i (some v)) H (ρ.set i (some (.fz d))) := by
  by_cases hi : i < ρ.length
  · refine j.turn (by simpa using j.len) j.dom .refl (fun _ => Iff.rfl) (fun _ _ => rfl) (fun k s' e => ?_) fun k hk => lget fun z => hp (z ▸ hk)
    by_cases hk : i = k
    · subst hk
      have e2 := Option.some.inj (lset e)
      subst e2
      exact .inr ⟨v, List.getElem?_set_self (by rw [← j.len]; exact hi), .fz h⟩
    · exact .inl ⟨by rw [lget hk] at e; exact e, lget hk, fun a r o t e => ⟨t, e⟩⟩
  · rw [set_big (l := ρ) hi, set_big (l := σ) (by rw [← j.len]; exact hi)]
    exact j
theorem g_name {i : Nat} {x : Str} {p : Pos} (hN : X.N.Nodup) (hi : X.N[i]? = some x) (hx : Loc X.env.scope x) (hp : i ∉ c.mp := by exact of_decide_eq_true rfl) (hf : X.fn x = true ∨ X.env.scope.names.lookup x = some .local := by first | exact .inl rfl | exact .inr rfl | assumption) : PG X (.Name x p) (tG (gX X) c [i] (aName i)) :=
  PGw (pg_name hN hi hx hf) fun v σ H Q ⟨τ, ρ, d, ρ', j, f, e, q⟩ => by
    cases e
    exact q _ ⟨List.length_set, fun k hk => lget fun z => hk (by rw [z]; exact List.mem_singleton.mpr rfl)⟩ (j.storeF f hp)
abbrev TAss := List D → Env → Option Env
def tGs (g : Gm) (c : JC) (sl : List Nat) (t : TAss) : TGs := fun vs σ H Q => ∃ τ ρ ds ρ', J g c τ σ H ρ ∧ Fs g τ H vs ds ∧ t ds ρ = some ρ' ∧ ∀ σ', Alike sl σ σ' → J g c τ σ' H ρ' → Q σ' H
theorem PGsw {X : Cx} {tg : List Expr} {t t' : TGs} (h : PGs X tg t) (k : ∀ v σ H Q, t' v σ H Q → t v σ H Q) : PGs X tg t' := by
  have hr := h.run
  exact ⟨fun pins s σ H x u Q I r q => hr pins s σ H x u Q I r (k x σ H Q q)⟩
def aNil : TAss := fun ds ρ => match ds with
  | [] => some ρ
  | _ => none
def aCons (t : TAs) (u : TAss) : TAss := fun ds ρ => match ds with
  | d :: r => (t d ρ).bind fun ρ' => u r ρ'
  | [] => none
theorem gs_nil : PGs X [] (tGs (gX X) c [] aNil) := PGsw pgs_nil fun vs σ H Q ⟨τ, ρ, ds, ρ', j, f, e, q⟩ => by
  cases ds with
  | nil => cases f; cases e; exact ⟨rfl, q σ ⟨rfl, fun _ _ => rfl⟩ j⟩
  | cons _ _ => cases e
theorem gs_cons {e : Expr} {es : List Expr} {s1 s2 : List Nat} {t : TAs} {u : TAss} (h1 : PG X e (tG (gX X) c s1 t)) (h2 : PGs X es (tGs (gX X) c s2 u)) (hs : (assignEach (e :: es) X.env).map (·.2) = assign e X.env :: (assignEach es X.env).map (·.2) := by rfl) : PGs X (e :: es) (tGs (gX X) c (s1 ++ s2) (aCons t u)) := PGsw (pgs_cons h1 h2 hs) fun vs σ H Q ⟨τ, ρ, ds, ρ', j, f, e, q⟩ => by
  cases ds with
  | nil => cases e
  | cons d ds =>
    cases f with
    | cons f1 f2 =>
    have e : (t d ρ).bind (fun ρ' => u ds ρ') = some ρ' := e
    cases e1 : t d ρ with
    | none => rw [e1] at e; cases e
    | some ρ1 =>
      rw [e1] at e
      exact ⟨_, _, rfl, τ, ρ, d, ρ1, j, f1, e1, fun σ' h' j' => ⟨τ, ρ1, ds, ρ', j', f2, e, fun σ2 h2 j2 => q σ2 ⟨h2.len.trans h'.len, fun i hi => (h2.at_ i fun z => hi (List.mem_append_right _ z)).trans (h'.at_ i fun z => hi (List.mem_append_left _ z))⟩ j2⟩⟩
def aTup (n : Nat) (t : TAss) : TAs := fun d ρ => match d with
  | .tup ds => if ds.length = n then t ds ρ else none
  | _ => none
theorem g_tup {es : List Expr} {k : Nat} {sl : List Nat} {t : TAss} {n : Nat} (hc : X.calm = true) (h : PGs X es (tGs (gX X) c sl t))
    (hn : (assignEach es X.env).length = n := by rfl) (hst : (assignEach es X.env).findIdx? (·.1) = none := by rfl) : PG X (.Tuple es k pos) (tG (gX X) c sl (aTup n t)) :=
  PGw (pg_tup hc h hn hst) fun v σ H Q ⟨τ, ρ, d, ρ', j, f, e, q⟩ => by
    cases d with
    | tup ds =>
      cases f with
      | tup h1 h2 h3 =>
        have e : (if ds.length = n then t ds ρ else none) = some ρ' := e
        by_cases hl : ds.length = n
        · rw [if_pos hl] at e
          exact ⟨_, _, rfl, .inl (.inl h1), h3.len.trans hl, τ, ρ, _, ρ', j, h3, e, q⟩
        · rw [if_neg hl] at e; cases e
    | _ => cases e
/-- a target outside of for: a, b = e -/
def sAsg (a : TAs) (t : TV) : TSt := fun ρ => (t ρ).st fun s ρ' => match a s.fr ρ' with
  | some ρ2 => .nx ρ2
  | none => .bad
theorem s_asg {tg e : Expr} {t : TV} {sl : List Nat} {a : TAs} (he : PE X e (tV (gX X) c w t)) (hg : PG X tg (tG (gX X) c sl a)) (hs : swapsWithSole [tg] e pos.line X.env = pure false := by rfl) (hw : swappedStores [tg] e X.env = pure none := by rfl) (h1 : (assignEach [tg] X.env).map (·.2) = [assign tg X.env] := by rfl) : PS X (.Assign [tg] e pos) (tS (gX X) c w (sAsg a t)) :=
  PSw (ps_asg he hg hs hw h1) fun Dn σ H q => by
    obtain ⟨τ, ρ, j, q⟩ := tS_iff.mp q
    refine ⟨τ, ρ, j, ?_⟩
    unfold sAsg at q
    cases e1 : t ρ with
    | bad => rw [e1] at q; exact q
    | exc x ρ' => rw [e1] at q; exact fun cls d H' τ' h1 h2 h3 => q cls d τ' σ H' h1 h2 h3
    | ok z =>
      obtain ⟨s, ρ'⟩ := z
      rw [e1] at q
      intro v H' τ' h1 h2 h3
      dsimp only [R.st] at q
      cases e2 : a s.fr ρ' with
      | none => rw [e2] at q; exact q.elim
      | some ρ2 =>
        rw [e2] at q
        exact ⟨_, ρ', s.fr, ρ2, h2.freeze, h3.freeze, e2, fun σ' _ j' => q _ σ' H' (h1.trans retag_ext) j'⟩

/-! ### what is walked -/
def D.items? : D → Option (List D)
  | .lst ds => some ds
  | .tup ds => some ds
  | .scr ns => some (ns.map D.int)
  | _ => none
def iSeq (t : TV) : TIt := fun ρ => (t ρ).th fun s ρ' => match s.fr.items? with
  | some ds => .ok (ds, ρ')
  | none => .bad
theorem walks_lst {g : Gm} {τ : Tg} {H : Hp} {a : Addr} {ds : List D} (h : F g τ H (.ref a) (.lst ds)) : Walks g (Itl g.K a) τ H ds := fun i τ2 H2 ex hd => by
  have h2 := h.tr ex
  cases h2 with
  | lst e t f =>
    have hS : SqL g.K H2 a _ := .inl (.inl e)
    refine ⟨fun d hdd => ?_, fun hn => ?_⟩
    · obtain ⟨v, e1, f1⟩ := f.get hdd
      refine ⟨⟨_, v, hS, e1⟩, fun x H3 hy => ?_⟩
      obtain ⟨rfl, hy⟩ := hy
      have ev : x = v := Option.some.inj ((hy _ hS).symm.trans e1)
      rw [ev]
      exact ⟨.refl _, f1⟩
    · exact ⟨_, hS, by rw [f.len]; exact List.getElem?_eq_none_iff.mp hn⟩
theorem walks_tup {g : Gm} {τ : Tg} {H : Hp} {a : Addr} {ds : List D} (h : F g τ H (.ref a) (.tup ds)) : Walks g (Itt g.K a) τ H ds := fun i τ2 H2 ex hd => by
  have h2 := h.tr ex
  cases h2 with
  | tup e t f =>
    have hS : SqT g.K H2 a _ := .inl (.inl e)
    refine ⟨fun d hdd => ?_, fun hn => ?_⟩
    · obtain ⟨v, e1, f1⟩ := f.get hdd
      refine ⟨⟨_, v, hS, e1⟩, fun x H3 hy => ?_⟩
      obtain ⟨rfl, hy⟩ := hy
      have ev : x = v := Option.some.inj ((hy _ hS).symm.trans e1)
      rw [ev]
      exact ⟨.refl _, f1⟩
    · exact ⟨_, hS, by rw [f.len]; exact List.getElem?_eq_none_iff.mp hn⟩
/-- a list or a tuple -/
theorem i_seq {tg e : Expr} {t : TV} (he : PE X e (tV (gX X) c w t)) : PI X tg e (tI (gX X) c w (iSeq t)) := by
  have h1 := pi_list (tg := tg) he
  have h2 := pi_tup (tg := tg) he
  have key : ∀ σ H Qi, tI (gX X) c w (iSeq t) σ H Qi → iList X.K (tV (gX X) c w t) σ H Qi ∨ iTup X.K (tV (gX X) c w t) σ H Qi := by
    rintro σ H Qi ⟨τ, ρ, j, q⟩
    unfold iSeq at q
    cases e1 : t ρ with
    | bad => rw [e1] at q; exact q.elim
    | exc x ρ' => rw [e1] at q; exact .inl ⟨τ, ρ, j, by rw [e1]; exact q⟩
    | ok z =>
      obtain ⟨s, ρ'⟩ := z
      rw [e1] at q
      dsimp only [R.th] at q
      cases e2 : s.fr with
      | lst ds =>
        rw [e2] at q
        refine .inl ⟨τ, ρ, j, ?_⟩
        rw [e1]
        intro v H' τ' a1 a2 a3
        have f := a3.freeze
        rw [e2] at f
        cases f with
        | lst h1 h2 h3 => exact ⟨_, rfl, ⟨_, .inl (.inl h1)⟩, q _ _ _ (a1.trans retag_ext) a2.freeze (walks_lst (.lst h1 h2 h3))⟩
      | tup ds =>
        rw [e2] at q
        refine .inr ⟨τ, ρ, j, ?_⟩
        rw [e1]
        intro v H' τ' a1 a2 a3
        have f := a3.freeze
        rw [e2] at f
        cases f with
        | tup h1 h2 h3 => exact ⟨_, rfl, ⟨_, .inl (.inl h1)⟩, q _ _ _ (a1.trans retag_ext) a2.freeze (walks_tup (.tup h1 h2 h3))⟩
      | scr ns =>
        rw [e2] at q
        refine .inl ⟨τ, ρ, j, ?_⟩
        rw [e1]
        intro v H' τ' a1 a2 a3
        have f := a3.freeze
        rw [e2] at f
        cases f with
        | scr hs =>
          have sq : ∀ {τ2 H2}, Ext (retag 0 (fun _ => none) τ') H' τ2 H2 → SqL X.K H2 _ (ns.map V.int) := fun {τ2 H2} ex => by
            rcases hs with ⟨o, e, t⟩ | hs
            · exact .inl (.inr ⟨o, (ex _ _ t e).2⟩)
            · rcases hs with (z | ⟨_, z⟩) | z
              · cases z
              · cases z
              · exact .inr z
          refine ⟨_, rfl, ⟨_, sq .refl⟩, q _ _ _ (a1.trans retag_ext) a2.freeze fun i τ2 H2 ex hd => ⟨fun d hdd => ?_, fun hn => ?_⟩⟩
          · rw [List.getElem?_map] at hdd
            cases e3 : ns[i]? with
            | none => rw [e3] at hdd; cases hdd
            | some n =>
              rw [e3] at hdd
              cases hdd
              have e4 : (ns.map V.int)[i]? = some (.int n) := by rw [List.getElem?_map, e3]; rfl
              refine ⟨⟨_, _, sq ex, e4⟩, fun x H3 hy => ?_⟩
              obtain ⟨rfl, hy⟩ := hy
              have ev : x = .int n := Option.some.inj ((hy _ (sq ex)).symm.trans e4)
              rw [ev]
              exact ⟨.refl _, .int n⟩
          · refine ⟨_, sq ex, ?_⟩
            have := List.getElem?_eq_none_iff.mp hn
            simpa using this
      | _ => rw [e2] at q; exact q.elim
  exact ⟨fun pins s σ H Qi I q => (key σ H Qi q).elim (h1.run pins s σ H Qi I) (h2.run pins s σ H Qi I)⟩
/-- range(e), range(e, f) -/
def S.int? : S → Option Int
  | .fz (.int i) => some i
  | _ => none
theorem W.int {g : Gm} {τ : Tg} {H : Hp} {π : List Nat} {v : V} {s : S} {i : Int} (h : W g τ H π v s) (e : s.int? = some i) : v = .int i := by
  cases h with
  | fz f => cases f <;> first | (cases e; rfl) | cases e
  | lst => cases e
  | dK => cases e
  | dT => cases e
  | obj => cases e
def rng (a b : Int) : List D := (List.range (b - a).toNat).map fun (k : Nat) => D.int (a + k)
def iRng (ta tb : TV) : TIt := fun ρ => (ta ρ).th fun s ρ1 => match s.int? with
  | some i => (tb ρ1).th fun s2 ρ2 => (match s2.int? with
    | some j => if -(2 ^ 62) ≤ i ∧ i < 2 ^ 62 ∧ -(2 ^ 62) ≤ j ∧ j < 2 ^ 62 then .ok (rng i j, ρ2) else .bad
    | none => .bad)
  | none => .bad
def iRng0 (tb : TV) : TIt := fun ρ => (tb ρ).th fun s2 ρ2 => match s2.int? with
    | some j => if -(2 ^ 62) ≤ j ∧ j < 2 ^ 62 then .ok (rng 0 j, ρ2) else .bad
    | none => .bad
theorem walks_rng {g : Gm} {τ : Tg} {H : Hp} {a : Int} {n : Nat} : Walks g (Itr a n) τ H ((List.range n).map fun (k : Nat) => D.int (a + k)) := fun i τ2 H2 ex hd => by
  refine ⟨fun d hdd => ?_, fun hn => ?_⟩
  · rw [List.getElem?_map] at hdd
    by_cases hi : i < n
    · rw [List.getElem?_range hi] at hdd
      cases hdd
      refine ⟨hi, fun x H3 hy => ?_⟩
      obtain ⟨rfl, rfl⟩ := hy
      exact ⟨.refl _, .int _⟩
    · rw [List.getElem?_eq_none (by simpa using hi)] at hdd
      cases hdd
  · have h : n ≤ i := by simpa using List.getElem?_eq_none_iff.mp hn
    exact h
theorem ii_rng0 {ta : TV} (σ : L2.St) (H : Hp) (Qi : It → Hp → Prop) (q0 : tI (gX X) c w (iRng0 ta) σ H Qi) : iRng1 (tCons (tV (gX X) c w ta) tNil) σ H Qi := by
    obtain ⟨τ, ρ, j, q⟩ := q0
    show tV (gX X) c w ta σ H _
    refine ⟨τ, ρ, j, ?_⟩
    unfold iRng0 at q
    cases e1 : ta ρ with
    | bad => rw [e1] at q; exact q
    | exc x ρ' => rw [e1] at q; exact q
    | ok z =>
      obtain ⟨s, ρ'⟩ := z
      rw [e1] at q
      dsimp only [R.th] at q
      cases e2 : s.int? with
      | none => rw [e2] at q; exact q.elim
      | some i =>
        rw [e2] at q
        dsimp only at q
        by_cases hb : -(2 ^ 62) ≤ i ∧ i < 2 ^ 62
        · rw [if_pos hb] at q
          intro v H' τ' a1 a2 a3
          refine ⟨i, by rw [a3.int e2], hb.1, hb.2, q _ _ _ a1 a2 ?_⟩
          have := walks_rng (g := gX X) (τ := τ') (H := H') (a := 0) (n := i.toNat)
          unfold rng
          rw [Int.sub_zero]
          exact this
        · rw [if_neg hb] at q; exact q.elim
theorem i_rng0 {tg a : Expr} {ta : TV} {p pos : Pos} (hg : Gl X "range") (hm : X.mg "range" = none) (ha : PE X a (tV (gX X) c w ta)) (hp1 : starEach [a] X.env = (false, eval a X.env) :: starEach [] X.env := by rfl) (hs : starEach [a] X.env = [(false, eval a X.env)] := by rfl) : PI X tg (.Call (.Name "range" p) [a] [] pos) (tI (gX X) c w (iRng0 ta)) :=
  PIw (pi_range1 hg hm (pa_cons ha pa_nil hp1) hs) ii_rng0
theorem i_rng {tg a b : Expr} {ta tb : TV} {p pos : Pos} (hg : Gl X "range") (hm : X.mg "range" = none) (ha : PE X a (tV (gX X) c w ta)) (hb : PE X b (tV (gX X) c w tb)) (hp1 : starEach [b] X.env = (false, eval b X.env) :: starEach [] X.env := by rfl) (hp2 : starEach [a, b] X.env = (false, eval a X.env) :: starEach [b] X.env := by rfl)
    (hs : starEach [a, b] X.env = [(false, eval a X.env), (false, eval b X.env)] := by rfl) (hs2 : starEach [b] X.env = [(false, eval b X.env)] := by rfl) : PI X tg (.Call (.Name "range" p) [a, b] [] pos) (tI (gX X) c w (iRng ta tb)) :=
  PIw (pi_range2 hg hm (pa_cons ha (pa_cons hb pa_nil hp1) hp2) hs hs2) fun σ H Qi ⟨τ, ρ, j, q⟩ => by
    show tV (gX X) c w ta σ H _
    refine ⟨τ, ρ, j, ?_⟩
    unfold iRng at q
    cases e1 : ta ρ with
    | bad => rw [e1] at q; exact q
    | exc x ρ' => rw [e1] at q; exact q
    | ok z =>
      obtain ⟨s, ρ'⟩ := z
      rw [e1] at q
      dsimp only [R.th] at q
      cases e2 : s.int? with
      | none => rw [e2] at q; exact q.elim
      | some i =>
        rw [e2] at q
        dsimp only at q
        intro v H' τ' a1 a2 a3
        show tV (gX X) c w tb σ H' _
        refine ⟨τ', ρ', a2, ?_⟩
        cases e3 : tb ρ' with
        | bad => rw [e3] at q; exact q
        | exc x ρ2 => rw [e3] at q; exact fun cls d H2 τ2 b1 b2 b3 => q cls d H2 τ2 (a1.trans b1) b2 b3
        | ok z =>
          obtain ⟨s2, ρ2⟩ := z
          rw [e3] at q
          dsimp only at q
          cases e4 : s2.int? with
          | none => rw [e4] at q; exact q.elim
          | some i2 =>
            rw [e4] at q
            dsimp only at q
            by_cases hb : -(2 ^ 62) ≤ i ∧ i < 2 ^ 62 ∧ -(2 ^ 62) ≤ i2 ∧ i2 < 2 ^ 62
            · rw [if_pos hb] at q
              intro v2 H2 τ2 b1 b2 b3
              exact ⟨i, i2, by rw [a3.int e2, b3.int e4], hb, q _ _ _ (a1.trans b1) b2 walks_rng⟩
            · rw [if_neg hb] at q; exact q.elim
end
end VS
namespace VS
open PySem PySem.Spec PyProof.Rows L2

/-! ### defs -/
inductive FR where
  | ok (s : S) (outs : List S) | exc (x : XD) (outs : List S) | bad
/-- what the parameters that a def may change hold at its end -/
def outsOf (mp : List Nat) (ρ : Env) : Option (List S) := match mp with
  | [] => some []
  | i :: r => match ρ[i]? with
    | some (some s) => (outsOf r ρ).map (s :: ·)
    | _ => none
def Out.fr (mp : List Nat) (o : Out) : FR := match o with
  | .nx ρ => (match outsOf mp ρ with
    | some l => .ok (.fz .non) l
    | none => .bad)
  | .rt s ρ => (match outsOf mp ρ with
    | some l => .ok s l
    | none => .bad)
  | .exc x ρ => (match outsOf mp ρ with
    | some l => .exc x l
    | none => .bad)
  | _ => .bad
def begin (n : Nat) (ss : List S) : Env := ss.map some ++ List.replicate (n - ss.length) none
/-- a def of n names, np parameters; mp: those that it may change -/
def fnSem (n np : Nat) (mp : List Nat) (t : TSt) (ss : List S) : FR := if ss.length = np then (t (begin n ss)).fr mp else .bad
structure Post (τ : Tg) (H : Hp) (τ' : Tg) (H' : Hp) : Prop where
  dom : ∀ a q, τ' a = some q → ∃ o, H' a = some o
  ext : Ext τ H τ' H'
  grd : ∀ a, τ' a = some [] ↔ τ a = some []
  grh : ∀ a, τ a = some [] → H' a = H a
def Args (g : Gm) (τ : Tg) (H : Hp) (vs : List V) (ss : List S) : Prop := vs.length = ss.length ∧ ∀ i s, ss[i]? = some s → ∃ v, vs[i]? = some v ∧ W g τ H [i + 1] v s
def Outs (g : Gm) (mp : List Nat) (τ : Tg) (H : Hp) (vs : List V) (outs : List S) : Prop := outs.length = mp.length ∧ ∀ (m i : Nat) (s : S), mp[m]? = some i → outs[m]? = some s → ∃ v, vs[i]? = some v ∧ W g τ H [i + 1] v s
def isFz : S → Bool
  | .fz _ => true
  | _ => false
/-- what a def promises -/
def spOf (g : Gm) (np : Nat) (mp : List Nat) (f : List S → FR) : Sp := fun vs H Q E => vs.length = np ∧ ∃ τ ss, Args g τ H vs ss ∧ (∀ i s, ss[i]? = some s → i ∉ mp → isFz s = true) ∧ (∀ a q, τ a = some q → ∃ o, H a = some o) ∧ match f ss with
  | .ok s outs => ∀ v H' τ', Post τ H τ' H' → Outs g mp τ' H' vs outs → W g τ' H' [0] v s → Q v H'
  | .exc x outs => ∀ cls d H' τ', Post τ H τ' H' → Outs g mp τ' H' vs outs → XR g τ' H' x cls d → E cls d H'
  | .bad => False
theorem outsOf_ok {mp : List Nat} {ρ : Env} : ∀ {l : List S}, outsOf mp ρ = some l → l.length = mp.length ∧ ∀ (m i : Nat) (s : S), mp[m]? = some i → l[m]? = some s → ρ[i]? = some (some s) := by
  induction mp with
  | nil => intro l h; cases h; exact ⟨rfl, fun m i s e => by simp at e⟩
  | cons k r ih =>
    intro l h
    unfold outsOf at h
    cases e : ρ[k]? with
    | none => rw [e] at h; cases h
    | some o =>
      rw [e] at h
      cases o with
      | none => cases h
      | some s0 =>
        dsimp only at h
        cases e2 : outsOf r ρ with
        | none => rw [e2] at h; cases h
        | some l2 =>
          rw [e2] at h
          cases h
          obtain ⟨h1, h2⟩ := ih e2
          refine ⟨by rw [List.length_cons, List.length_cons, h1], fun m i s a b => ?_⟩
          cases m with
          | zero => simp at a b; rw [← a, ← b]; exact e
          | succ m => exact h2 m i s (by simpa using a) (by simpa using b)
section
variable {P : Program} {w : World} {K : PySem.W.Frag} {mg : Str → Option Value} {base : Heap}
theorem begin_at {n : Nat} {ss : List S} {i : Nat} {s : S} (h : (begin n ss)[i]? = some (some s)) : ss[i]? = some s := by
  unfold begin at h
  by_cases hi : i < ss.length
  · rw [List.getElem?_append_left (by simpa using hi), List.getElem?_map] at h
    cases e : ss[i]? with
    | none => rw [e] at h; cases h
    | some a => rw [e] at h; cases h; rfl
  · rw [List.getElem?_append_right (by simpa using hi), List.getElem?_replicate] at h
    split at h <;> cases h
theorem start_at {N : List Str} {vs : List V} {i : Nat} {v : V} (h : vs[i]? = some v) : (L2.start N vs)[i]? = some (some v) := by
  unfold L2.start
  have hi := (List.getElem?_eq_some_iff.mp h).1
  rw [List.getElem?_append_left (by simpa using hi), List.getElem?_map, h]
  rfl
/-- a def keeps its promise: by its body's walk -/
def gB (K : PySem.W.Frag) (mg : Str → Option Value) : Gm := ⟨K, fun c => match mg c with
  | some (.ref C) => some C
  | _ => none⟩
theorem fn_vs {x qual : Str} {params : Arguments} {body : List Stmt} {scope : Scope} {dvs : List V} {kws : List (Str × V)} {f : Addr} {fd : FuncData} {N ps : List Str} {k : Nat} {mp : List Nat} {t : TSt} (F : FunD K x qual params body scope dvs kws f fd) (Sc : FnScope N ps scope)
    (hmp : ∀ i ∈ mp, i < ps.length)
    (hb : ∀ (cdv : Value) (A : Around) (outer : List PySem.Env) (s : Shared) (H : Hp) (E : XK) (τ : Tg) (H0 : Hp) (vs : List V), Room k (A.deeper (envOfC qual scope s.heap.objs.size f cdv)) →
      L2N.Takes (cxOf (L2N.CX P w) P w K mg base N qual scope f cdv A outer s H E) (fun cls d _ H => E cls d H) →
      PassesOwn (model P w) (A.deeper (envOfC qual scope s.heap.objs.size f cdv)) (envOfC qual scope s.heap.objs.size f cdv) (cxOf (L2N.CX P w) P w K mg base N qual scope f cdv A outer s H E).xe →
      PSs (cxOf (L2N.CX P w) P w K mg base N qual scope f cdv A outer s H E) body (tS (gX (cxOf (L2N.CX P w) P w K mg base N qual scope f cdv A outer s H E)) ⟨τ, H0, mp, fun i => vs[i]?⟩ (fun cls d _ H => E cls d H) t)) :
    FnOk P w K mg base (L2N.CX P w) (k + 1) f fd ps (spOf (gB K mg) ps.length mp (fnSem N.length ps.length mp t)) := by
  refine F.ok Sc (fun vs H Q E h => h.1) (fun cdv A outer s H vs Q E hr h => ?_)
  obtain ⟨hl, τ, ss, ⟨hl2, ha⟩, hf, hd, q⟩ := h
  refine ⟨_, hb cdv A outer s H E τ H vs hr (L2N.takes_of rfl rfl rfl rfl) (passes_of rfl), ?_⟩
  have hpl : ps.length ≤ N.length := by have := congrArg List.length Sc.pre; rw [List.length_take] at this; omega
  have j : J (gB K mg) ⟨τ, H, mp, fun i => vs[i]?⟩ τ (L2.start N vs) H (begin N.length ss) := by
    refine ⟨?_, hd, .refl, fun _ => Iff.rfl, fun _ _ => rfl, fun i s e => ?_, fun i hi v e => start_at e⟩
    · unfold begin L2.start
      simp only [List.length_append, List.length_map, List.length_replicate]
      omega
    · obtain ⟨v, h1, h2⟩ := ha i s (begin_at e)
      exact ⟨v, start_at h1, h2⟩
  unfold fnSem at q
  rw [if_pos (hl2.symm.trans hl)] at q
  refine tS_iff.mpr ⟨τ, begin N.length ss, j, ?_⟩
  have post : ∀ {τ' σ' H' ρ'}, Ext τ H τ' H' → J (gB K mg) ⟨τ, H, mp, fun i => vs[i]?⟩ τ' σ' H' ρ' → Post τ H τ' H' := fun {τ' σ' H' ρ'} a b => ⟨b.dom, a, b.grd, b.grh⟩
  have outs : ∀ {τ' σ' H' ρ' l}, J (gB K mg) ⟨τ, H, mp, fun i => vs[i]?⟩ τ' σ' H' ρ' → outsOf mp ρ' = some l → Outs (gB K mg) mp τ' H' vs l := fun {τ' σ' H' ρ' l} b e => by
    obtain ⟨h1, h2⟩ := outsOf_ok e
    refine ⟨h1, fun m i s a z => ?_⟩
    obtain ⟨v, c1, c2⟩ := b.env i s (h2 m i s a z)
    refine ⟨v, ?_, c2⟩
    cases e3 : vs[i]? with
    | some v' =>
      have := b.pin i (List.mem_of_getElem? a) v' e3
      rw [c1] at this
      exact (Option.some.inj (Option.some.inj this)) ▸ rfl
    | none =>
      have h3 := hmp i (List.mem_of_getElem? a)
      have h4 := List.getElem?_eq_none_iff.mp e3
      omega
  cases e : t (begin N.length ss) with
  | bad => rw [e] at q; exact q.elim
  | bk ρ' => rw [e] at q; exact q.elim
  | ct ρ' => rw [e] at q; exact q.elim
  | nx ρ' =>
    rw [e] at q
    dsimp only [Out.fr] at q
    cases e2 : outsOf mp ρ' with
    | none => rw [e2] at q; exact q.elim
    | some l => rw [e2] at q; exact fun τ' σ' H' a b => q .non H' τ' (post a b) (outs b e2) (.fz .non)
  | rt s ρ' =>
    rw [e] at q
    dsimp only [Out.fr] at q
    cases e2 : outsOf mp ρ' with
    | none => rw [e2] at q; exact q.elim
    | some l => rw [e2] at q; exact fun τ' σ' v H' a b d => q v H' τ' (post a b) (outs b e2) d
  | exc x ρ' =>
    rw [e] at q
    dsimp only [Out.fr] at q
    cases e2 : outsOf mp ρ' with
    | none => rw [e2] at q; exact q.elim
    | some l => rw [e2] at q; exact fun cls dd τ' σ' H' a b d => q cls dd H' τ' (post a b) (outs b e2) d
end

/-! ### calls -/
inductive AV where
  | fz (d : D) | sl (i : Nat)
abbrev TAv := Env → R (List AV × Env)
def AR (g : Gm) (τ : Tg) (σ : L2.St) (H : Hp) (v : V) : AV → Prop
  | .fz d => F g τ H v d
  | .sl i => σ[i]? = some (some v)
def ARs (g : Gm) (τ : Tg) (σ : L2.St) (H : Hp) (vs : List V) (as : List AV) : Prop := vs.length = as.length ∧ ∀ (i : Nat) (a : AV), as[i]? = some a → ∃ v, vs[i]? = some v ∧ AR g τ σ H v a
def tA (g : Gm) (c : JC) (w : WX) (t : TAv) : TA := fun σ H Q => ∃ τ ρ, J g c τ σ H ρ ∧ match t ρ with
  | .ok (as, ρ') => ∀ vs H' τ', Ext τ H τ' H' → J g c τ' σ H' ρ' → ARs g τ' σ H' vs as → Q vs H'
  | .exc x ρ' => ∀ cls d H' τ', Ext τ H τ' H' → J g c τ' σ H' ρ' → XR g τ' H' x cls d → w cls d σ H'
  | .bad => False
theorem ARs.tr {g : Gm} {τ τ' : Tg} {σ : L2.St} {H H' : Hp} {vs : List V} {as : List AV} (h : ARs g τ σ H vs as) (e : Ext τ H τ' H') : ARs g τ' σ H' vs as := ⟨h.1, fun i a ea => by
  obtain ⟨v, h1, h2⟩ := h.2 i a ea
  refine ⟨v, h1, ?_⟩
  cases a with
  | fz d => exact F.tr e h2
  | sl k => exact h2⟩
theorem ARs.cons {g : Gm} {τ : Tg} {σ : L2.St} {H : Hp} {v : V} {a : AV} {vs : List V} {as : List AV} (h1 : AR g τ σ H v a) (h : ARs g τ σ H vs as) : ARs g τ σ H (v :: vs) (a :: as) := ⟨by rw [List.length_cons, List.length_cons, h.1], fun i b e => by
  cases i with
  | zero => simp at e; subst e; exact ⟨v, rfl, h1⟩
  | succ i => exact h.2 i b (by simpa using e)⟩
def aNo : TAv := fun ρ => .ok ([], ρ)
/-- an argument that is given away; a name whose thing the callee may change -/
def aFz (t : TV) (u : TAv) : TAv := fun ρ => (t ρ).th fun s ρ1 => (u ρ1).th fun as ρ2 => .ok (.fz s.fr :: as, ρ2)
def aSl (i : Nat) (u : TAv) : TAv := fun ρ => match ρ[i]? with
  | some (some _) => (u ρ).th fun as ρ2 => .ok (.sl i :: as, ρ2)
  | _ => .bad
section
variable {X : Cx} {c : JC} {w : WX} {e : Expr} {es : List Expr} {t : TV} {u : TAv}
theorem a_no : PA X [] (tA (gX X) c w aNo) := PAw pa_nil fun σ H Q ⟨τ, ρ, j, q⟩ => q [] H τ .refl j ⟨rfl, fun i a e => by simp at e⟩
theorem a_fz (h1 : PE X e (tV (gX X) c w t)) (h2 : PA X es (tA (gX X) c w u)) (hs : starEach (e :: es) X.env = (false, eval e X.env) :: starEach es X.env := by rfl) : PA X (e :: es) (tA (gX X) c w (aFz t u)) := PAw (pa_cons h1 h2 hs) fun σ H Q ⟨τ, ρ, j, q⟩ => by
  refine ⟨τ, ρ, j, ?_⟩
  unfold aFz at q
  cases e1 : t ρ with
  | bad => rw [e1] at q; exact q
  | exc x ρ' => rw [e1] at q; exact q
  | ok z =>
    obtain ⟨s, ρ1⟩ := z
    rw [e1] at q
    dsimp only [R.th] at q
    intro v H1 τ1 a1 a2 a3
    refine ⟨_, ρ1, a2.freeze, ?_⟩
    cases e2 : u ρ1 with
    | bad => rw [e2] at q; exact q
    | exc x ρ' => rw [e2] at q; exact fun cls d H2 τ2 b1 b2 b3 => q cls d H2 τ2 ((a1.trans retag_ext).trans b1) b2 b3
    | ok z =>
      obtain ⟨as, ρ2⟩ := z
      rw [e2] at q
      exact fun vs H2 τ2 b1 b2 b3 => q (v :: vs) H2 τ2 ((a1.trans retag_ext).trans b1) b2 (.cons (a3.freeze.tr b1) b3)
theorem a_sl {i : Nat} (h1 : PE X e (tVar i)) (h2 : PA X es (tA (gX X) c w u)) (hs : starEach (e :: es) X.env = (false, eval e X.env) :: starEach es X.env := by rfl) : PA X (e :: es) (tA (gX X) c w (aSl i u)) := PAw (pa_cons h1 h2 hs) fun σ H Q ⟨τ, ρ, j, q⟩ => by
  unfold aSl at q
  cases e0 : ρ[i]? with
  | none => rw [e0] at q; exact q.elim
  | some o =>
    rw [e0] at q
    cases o with
    | none => exact q.elim
    | some s0 =>
      obtain ⟨v, hv, _⟩ := j.env i s0 e0
      refine ⟨v, hv, τ, ρ, j, ?_⟩
      dsimp only at q
      cases e2 : u ρ with
      | bad => rw [e2] at q; exact q
      | exc x ρ' => rw [e2] at q; exact q
      | ok z =>
        obtain ⟨as, ρ2⟩ := z
        rw [e2] at q
        exact fun vs H2 τ2 b1 b2 b3 => q (v :: vs) H2 τ2 b1 b2 (.cons hv b3)
end
/-- what the callee gets -/
def argS (ρ : Env) : List AV → Option (List S)
  | [] => some []
  | .fz d :: r => (argS ρ r).map (.fz d :: ·)
  | .sl i :: r => match ρ[i]? with
    | some (some s) => (argS ρ r).map (s :: ·)
    | _ => none
def AV.slot : AV → Option Nat
  | .fz _ => none
  | .sl i => some i
/-- the slots that are handed on -/
def slots (as : List AV) : List Nat := as.filterMap AV.slot
def putB (as : List AV) : List Nat → List S → Env → Env
  | i :: mp, s :: outs, ρ => putB as mp outs (match as[i]? with
    | some (.sl k) => ρ.set k (some s)
    | _ => ρ)
  | _, _, ρ => ρ
/-- the other parameters get what nobody changes -/
def calm (mp : List Nat) : Nat → List S → Bool
  | _, [] => true
  | i, s :: r => (isFz s || mp.contains i) && calm mp (i + 1) r
def vCall (mp : List Nat) (f : List S → FR) (ta : TAv) : TV := fun ρ => (ta ρ).th fun as ρ1 => match argS ρ1 as with
  | some ss => if (slots as).Nodup ∧ calm mp 0 ss = true then (match f ss with
    | .ok s outs => if outs.length = mp.length then .ok (s, putB as mp outs ρ1) else .bad
    | .exc x outs => if outs.length = mp.length then .exc x (putB as mp outs ρ1) else .bad
    | .bad => .bad) else .bad
  | none => .bad
theorem calm_ok {mp : List Nat} : ∀ {ss : List S} {k : Nat}, calm mp k ss = true → ∀ (i : Nat) (s : S), ss[i]? = some s → k + i ∉ mp → isFz s = true
  | [], _, _, i, s, e, _ => by simp at e
  | a :: r, k, h, i, s, e, hn => by
    simp only [calm, Bool.and_eq_true, Bool.or_eq_true] at h
    cases i with
    | zero =>
      simp at e; subst e
      rcases h.1 with h1 | h1
      · exact h1
      · exact absurd (by simpa using h1) hn
    | succ i => exact calm_ok h.2 i s (by simpa using e) (by rw [show k + 1 + i = k + (i + 1) by omega]; exact hn)
theorem argS_ok {ρ : Env} : ∀ {as : List AV} {ss : List S}, argS ρ as = some ss → as.length = ss.length ∧ ∀ (i : Nat) (s : S), ss[i]? = some s → (∃ d, as[i]? = some (AV.fz d) ∧ s = S.fz d) ∨ ∃ k, as[i]? = some (AV.sl k) ∧ ρ[k]? = some (some s)
  | [], ss, h => by cases h; exact ⟨rfl, fun i s e => by simp at e⟩
  | .fz d :: r, ss, h => by
    unfold argS at h
    cases e : argS ρ r with
    | none => rw [e] at h; cases h
    | some l =>
      rw [e] at h; cases h
      obtain ⟨h1, h2⟩ := argS_ok e
      refine ⟨by rw [List.length_cons, List.length_cons, h1], fun i s ei => ?_⟩
      cases i with
      | zero => simp at ei; subst ei; exact .inl ⟨d, rfl, rfl⟩
      | succ i => simpa using h2 i s (by simpa using ei)
  | .sl k :: r, ss, h => by
    unfold argS at h
    cases e0 : ρ[k]? with
    | none => rw [e0] at h; cases h
    | some o =>
      rw [e0] at h
      cases o with
      | none => cases h
      | some s0 =>
        dsimp only at h
        cases e : argS ρ r with
        | none => rw [e] at h; cases h
        | some l =>
          rw [e] at h; cases h
          obtain ⟨h1, h2⟩ := argS_ok e
          refine ⟨by rw [List.length_cons, List.length_cons, h1], fun i s ei => ?_⟩
          cases i with
          | zero => simp at ei; subst ei; exact .inr ⟨k, rfl, e0⟩
          | succ i => simpa using h2 i s (by simpa using ei)
theorem slots_inj : ∀ {as : List AV}, (slots as).Nodup → ∀ {i j k : Nat}, as[i]? = some (AV.sl k) → as[j]? = some (AV.sl k) → i = j
  | [], _, _, _, _, e, _ => by simp at e
  | a :: r, hn, i, j, k, e1, e2 => by
    have hr : (slots r).Nodup := by
      unfold slots at hn ⊢
      rw [List.filterMap_cons] at hn
      split at hn
      · exact hn
      · exact (List.nodup_cons.mp hn).2
    have mem : ∀ {m : Nat}, r[m]? = some (AV.sl k) → k ∈ slots r := fun {m} e => List.mem_filterMap.mpr ⟨.sl k, List.mem_of_getElem? e, rfl⟩
    have nk : a = AV.sl k → k ∉ slots r := fun ea => by
      subst ea
      unfold slots at hn
      rw [List.filterMap_cons] at hn
      exact (List.nodup_cons.mp hn).1
    cases i with
    | zero =>
      simp at e1
      cases j with
      | zero => rfl
      | succ j => exact absurd (mem (by simpa using e2)) (nk e1)
    | succ i =>
      cases j with
      | zero => simp at e2; exact absurd (mem (by simpa using e1)) (nk e2)
      | succ j => rw [slots_inj (i := i) (j := j) hr (by simpa using e1) (by simpa using e2)]
theorem putB_ok {as : List AV} : ∀ {mp : List Nat} {outs : List S} {ρ : Env} {k : Nat} {s : S}, outs.length = mp.length → (putB as mp outs ρ)[k]? = some (some s) →
    (∃ m i : Nat, mp[m]? = some i ∧ outs[m]? = some s ∧ as[i]? = some (AV.sl k)) ∨ (ρ[k]? = some (some s) ∧ ∀ i ∈ mp, as[i]? ≠ some (AV.sl k))
  | [], [], ρ, k, s, _, h => .inr ⟨h, fun _ h => nomatch h⟩
  | i :: mp, o :: outs, ρ, k, s, hl, h => by
    rcases putB_ok (mp := mp) (outs := outs) (by simpa using hl) h with ⟨m, i', h1, h2, h3⟩ | ⟨h1, h2⟩
    · exact .inl ⟨m + 1, i', by simpa using h1, by simpa using h2, h3⟩
    · cases e : as[i]? with
      | none => rw [e] at h1; exact .inr ⟨h1, fun i' hi => (List.mem_cons.mp hi).elim (fun (z : i' = i) => by rw [z, e]; exact nofun) (h2 i')⟩
      | some a =>
        rw [e] at h1
        cases a with
        | fz d => exact .inr ⟨h1, fun i' hi => (List.mem_cons.mp hi).elim (fun (z : i' = i) => by rw [z, e]; exact nofun) (h2 i')⟩
        | sl k' =>
          dsimp only at h1
          by_cases hk : k' = k
          · subst hk
            have e2 := Option.some.inj (lset h1)
            subst e2
            exact .inl ⟨0, i, rfl, rfl, e⟩
          · rw [lget hk] at h1
            exact .inr ⟨h1, fun i' hi => (List.mem_cons.mp hi).elim (fun (z : i' = i) => by rw [z, e]; exact fun q => hk (by cases q; rfl)) (h2 i')⟩
theorem putB_len {as : List AV} : ∀ {mp : List Nat} {outs : List S} {ρ : Env}, (putB as mp outs ρ).length = ρ.length
  | [], _, _ => by unfold putB; rfl
  | _ :: _, [], _ => by unfold putB; rfl
  | i :: mp, o :: outs, ρ => by
    unfold putB
    rw [putB_len (mp := mp)]
    split <;> simp
/-- the callee's tags, and back -/
def inT (as : List AV) (τ : Tg) : Tg := fun a => match τ a with
  | none => none
  | some [] => some []
  | some (0 :: _) => some []
  | some ((k + 1) :: r) => match as.findIdx? (fun x => x.slot == some k) with
    | some i => some ((i + 1) :: r)
    | none => some []
def outT (as : List AV) (τ τc : Tg) : Tg := fun a => match τc a with
  | none => none
  | some [] => τ a
  | some (0 :: r) => some (0 :: r)
  | some ((i + 1) :: r) => match as[i]? with
    | some (.sl k) => some ((k + 1) :: r)
    | _ => none
theorem idx_of {as : List AV} (hn : (slots as).Nodup) {i k : Nat} (h : as[i]? = some (AV.sl k)) : as.findIdx? (fun x => x.slot == some k) = some i := by
  cases e : as.findIdx? (fun x => x.slot == some k) with
  | none =>
    rw [List.findIdx?_eq_none_iff] at e
    have := e _ (List.mem_of_getElem? h)
    simp [AV.slot] at this
  | some i' =>
    obtain ⟨hlt, h1, _⟩ := List.findIdx?_eq_some_iff_getElem.mp e
    have h2 : as[i']? = some (AV.sl k) := by
      rw [List.getElem?_eq_getElem hlt]
      cases e3 : as[i'] with
      | fz d => rw [e3] at h1; simp [AV.slot] at h1
      | sl k' => rw [e3] at h1; simp [AV.slot] at h1; rw [h1]
    rw [slots_inj hn h2 h]
theorem idx_no {as : List AV} {k : Nat} (h : ∀ i : Nat, as[i]? ≠ some (AV.sl k)) : as.findIdx? (fun x => x.slot == some k) = none := by
  rw [List.findIdx?_eq_none_iff]
  intro x hx
  obtain ⟨i, hi⟩ := List.getElem?_of_mem hx
  cases x with
  | fz d => rfl
  | sl k' =>
    show (some k' == some k) = false
    by_cases hk : k' = k
    · subst hk; exact absurd hi (h i)
    · simp [hk]
section
variable {g : Gm} {c : JC} {τ τc : Tg} {σ : L2.St} {H H' : Hp} {ρ : Env} {as : List AV}
theorem inT_none {a : Addr} (h : τ a = none) : inT as τ a = none := by unfold inT; rw [h]
theorem inT_some {a : Addr} {q : List Nat} (h : inT as τ a = some q) : ∃ q', τ a = some q' := by
  cases e : τ a with
  | none => rw [inT_none e] at h; cases h
  | some q' => exact ⟨q', rfl⟩
theorem inT_sl (hn : (slots as).Nodup) {i k : Nat} (h : as[i]? = some (AV.sl k)) : Kp [k + 1] [i + 1] τ H (inT as τ) H := fun a r o t e => ⟨by
  have t : τ a = some ((k + 1) :: r) := t
  unfold inT
  rw [t]
  show (match as.findIdx? (fun x => x.slot == some k) with
    | some i => some ((i + 1) :: r)
    | none => some []) = _
  rw [idx_of hn h]
  rfl, e⟩
theorem inT_no {k : Nat} (h : ∀ i : Nat, as[i]? ≠ some (AV.sl k)) {a : Addr} {r : List Nat} (t : τ a = some ((k + 1) :: r)) : inT as τ a = some [] := by
  unfold inT
  rw [t]
  show (match as.findIdx? (fun x => x.slot == some k) with
    | some i => some ((i + 1) :: r)
    | none => some []) = _
  rw [idx_no h]
theorem inT_nil {a : Addr} (t : τ a = some []) : inT as τ a = some [] := by unfold inT; rw [t]
theorem inT_ext : Ext τ H (inT as τ) H := fun a o t e => ⟨inT_none t, e⟩
theorem outT_none {a : Addr} (h : τc a = none) : outT as τ τc a = none := by unfold outT; rw [h]
theorem outT_nil {a : Addr} (h : τc a = some []) : outT as τ τc a = τ a := by unfold outT; rw [h]
theorem outT_sl {i k : Nat} (h : as[i]? = some (AV.sl k)) : Kp [i + 1] [k + 1] τc H' (outT as τ τc) H' := fun a r o t e => ⟨by
  have t : τc a = some ((i + 1) :: r) := t
  unfold outT
  rw [t]
  show (match as[i]? with
    | some (.sl k) => some ((k + 1) :: r)
    | _ => none) = _
  rw [h]
  rfl, e⟩
theorem outT_0 : Kp [0] [0] τc H' (outT as τ τc) H' := fun a r o t e => ⟨by
  have t : τc a = some (0 :: r) := t
  unfold outT
  rw [t]
  rfl, e⟩
theorem outT_ext : Ext τc H' (outT as τ τc) H' := fun a o t e => ⟨outT_none t, e⟩
/-- behind a call -/
theorem J.back {mp : List Nat} {outs : List S} {vs : List V} {ss : List S} (j : J g c τ σ H ρ) (hn : (slots as).Nodup) (ha : argS ρ as = some ss) (har : ARs g τ σ H vs as) (hc : calm mp 0 ss = true)
    (p : Post (inT as τ) H τc H') (ho : Outs g mp τc H' vs outs) : Ext τ H (outT as τ τc) H' ∧ J g c (outT as τ τc) σ H' (putB as mp outs ρ) := by
  have ex : Ext τ H (outT as τ τc) H' := (inT_ext.trans p.ext).trans outT_ext
  refine ⟨ex, j.turn (by rw [putB_len]; exact j.len) (fun a q e => ?_) ex (fun a => ?_) (fun a e => p.grh a (inT_nil e)) (fun k s e => ?_) fun _ _ => rfl⟩
  · cases e1 : τc a with
    | none => rw [outT_none e1] at e; cases e
    | some q' => exact p.dom a q' e1
  · constructor
    · intro h
      cases e1 : τc a with
      | none => rw [outT_none e1] at h; cases h
      | some q => cases q with
        | nil => rw [outT_nil e1] at h; exact h
        | cons n r =>
          unfold outT at h
          rw [e1] at h
          cases n with
          | zero => cases h
          | succ i =>
            dsimp only at h
            split at h <;> cases h
    · intro h
      rw [outT_nil ((p.grd a).mpr (inT_nil h))]
      exact h
  · rcases putB_ok ho.1 e with ⟨m, i, h1, h2, h3⟩ | ⟨h1, h2⟩
    · obtain ⟨v, a1, a2⟩ := ho.2 m i s h1 h2
      obtain ⟨v', b1, b2⟩ := har.2 i _ h3
      have ev : v' = v := Option.some.inj (b1.symm.trans a1)
      rw [ev] at b2
      exact .inr ⟨v, b2, a2.tr outT_ext (outT_sl h3)⟩
    · by_cases hk : ∃ i : Nat, as[i]? = some (AV.sl k)
      · obtain ⟨i, hi⟩ := hk
        have him : i ∉ mp := fun z => h2 i z hi
        obtain ⟨hl, hs⟩ := argS_ok ha
        have hlt : i < ss.length := by rw [← hl]; exact (List.getElem?_eq_some_iff.mp hi).1
        have es : ss[i]? = some ss[i] := List.getElem?_eq_getElem hlt
        rcases hs i _ es with ⟨d, z, _⟩ | ⟨k', z, z2⟩
        · rw [hi] at z; cases z
        · rw [hi] at z; cases z
          rw [h1] at z2
          have e3 : s = ss[i] := Option.some.inj (Option.some.inj z2)
          have hz := calm_ok hc i _ es (by simpa using him)
          rw [← e3] at hz
          cases s with
          | fz d =>
            obtain ⟨v, a1, a2⟩ := j.env k _ h1
            exact .inr ⟨v, a1, .fz (a2.of_fz.tr ex)⟩
          | lst _ => cases hz
          | dct _ _ _ => cases hz
          | obj _ _ _ => cases hz
      · refine .inl ⟨h1, rfl, fun a r o t e => ?_⟩
        have t : τ a = some ((k + 1) :: r) := t
        have ti := inT_no (as := as) (fun i z => hk ⟨i, z⟩) t
        exact ⟨by rw [outT_nil ((p.grd a).mpr ti)]; exact t, (p.grh a ti).trans e⟩
/-- the callee's entry -/
theorem J.into {mp : List Nat} {vs : List V} {ss : List S} (j : J g c τ σ H ρ) (hn : (slots as).Nodup) (ha : argS ρ as = some ss) (har : ARs g τ σ H vs as) (hc : calm mp 0 ss = true) :
    Args g (inT as τ) H vs ss ∧ (∀ i s, ss[i]? = some s → i ∉ mp → isFz s = true) ∧ ∀ a q, inT as τ a = some q → ∃ o, H a = some o := by
  obtain ⟨hl, hs⟩ := argS_ok ha
  refine ⟨⟨har.1.trans hl, fun i s e => ?_⟩, fun i s e h => calm_ok hc i s e (by simpa using h), fun a q e => let ⟨q', z⟩ := inT_some e; j.dom a q' z⟩
  rcases hs i s e with ⟨d, h1, rfl⟩ | ⟨k, h1, h2⟩
  · obtain ⟨v, a1, a2⟩ := har.2 i _ h1
    exact ⟨v, a1, .fz (F.tr inT_ext a2)⟩
  · obtain ⟨v, a1, a2⟩ := har.2 i _ h1
    obtain ⟨v', b1, b2⟩ := j.env k s h2
    have a2 : σ[k]? = some (some v) := a2
    rw [a2] at b1
    cases b1
    exact ⟨v, a1, b2.tr inT_ext (inT_sl hn h1)⟩
/-- constants that fill up -/
def Consts (dvs : List V) (dds : List D) : Prop := dvs.length = dds.length ∧ ∀ (g : Gm) (τ : Tg) (H : Hp) (i : Nat) (d : D), dds[i]? = some d → ∃ v, dvs[i]? = some v ∧ F g τ H v d
theorem Consts.nil : Consts [] [] := ⟨rfl, fun _ _ _ i d e => by simp at e⟩
theorem Consts.cons {v : V} {d : D} {dvs : List V} {dds : List D} (h : ∀ g τ H, F g τ H v d) (r : Consts dvs dds) : Consts (v :: dvs) (d :: dds) := ⟨by rw [List.length_cons, List.length_cons, r.1], fun g τ H i d' e => by
  cases i with
  | zero => simp at e; subst e; exact ⟨v, rfl, h g τ H⟩
  | succ i => exact r.2 g τ H i d' (by simpa using e)⟩
def fills (dds : List D) (f : List S → FR) : List S → FR := fun ss => f (ss ++ dds.map S.fz)
end
section
variable {X : Cx} {c : JC} {w : WX} {k : Nat} {f C : Addr} {fd : FuncData} {ps : List Str} {sp : Sp} {x m : Str} {p pos apos : Pos} {e o : Expr} {es : List Expr} {dvs : List V} {ds : List Value} {dds : List D}
/-- a callee of the text's runs, what it lets out is wished for at the slots -/
theorem run_D {pins : List (Addr × Obj)} {σ : L2.St} {H : Hp} {s : Shared} {Q : VK} {us : List Value} {vs : List V} (Fk : FnOk X.prog X.w X.K X.mg X.base (L2N.CX X.prog X.w) k f fd ps sp) (hr : Room k X.A) (hb : Binds X.K fd ps ds) (hd : Vals dvs ds) (tk : L2N.Takes X w)
    (I : Inv X pins σ H s) (r : Vals vs us) (h : sp (vs ++ dvs) H Q (WE w σ)) : wpAny (model X.prog X.w) X.A (call (.ref f) us) (EP X pins σ Q) X.xe s := by
  have rd := r.append hd
  have bd := hb s us I.kIn (by rw [← rd.length, Fk.len _ _ _ _ h])
  refine wpAny_call (codeAny_mono (Fk.run X.A X.stack s H ⟨us, []⟩ _ _ Q (WE w σ) hr I.env0 bd rd h) fun res s2 hq => ?_)
  match res, hq with
  | .error ex, hq => exact L2N.passAt tk σ pins H s ex s2 I hq
  | .ok (.ret u), hq => exact I.after hq
theorem pe_D {t : TA} (Fk : FnOk X.prog X.w X.K X.mg X.base (L2N.CX X.prog X.w) k f fd ps sp) (hr : Room k X.A) (hg : Gl X x) (hm : X.mg x = some (.ref f)) (hk : PySem.W.keepIn X.K (.ref f) = true) (hb : Binds X.K fd ps ds) (hd : Vals dvs ds) (tk : L2N.Takes X w)
    (ha : PA X (e :: es) t) (hdb : (x == ("__debug__" : Str)) = false := by decide) (he : starEach (e :: es) X.env = (false, eval e X.env) :: starEach es X.env := by rfl) (hpl : (backTo pos (starEach es X.env)).any (·.1) = false := by rfl) :
    PE X (.Call (.Name x p) (e :: es) [] pos) (fun σ H Q => t σ H fun vs H1 => sp (vs ++ dvs) H1 Q (WE w σ)) := by
  refine ⟨fun pins s σ H Q I h => wpAny_Call_Name_kw (ld_glob I hg hm ?_ hdb)⟩
  exact PySem.W.callWith_K (h₀ := X.base) I.ok.mod.kin hk (thn (ha.run pos pins s σ H _ I h) fun us s1 ⟨vs, H1, J1, rv, q⟩ => ⟨J1.kIn, run_D Fk hr hb hd tk J1 rv q⟩) he hpl
theorem pe_D0 (Fk : FnOk X.prog X.w X.K X.mg X.base (L2N.CX X.prog X.w) k f fd ps sp) (hr : Room k X.A) (hg : Gl X x) (hm : X.mg x = some (.ref f)) (hk : PySem.W.keepIn X.K (.ref f) = true) (hb : Binds X.K fd ps ds) (hd : Vals dvs ds) (tk : L2N.Takes X w)
    (hdb : (x == ("__debug__" : Str)) = false := by decide) : PE X (.Call (.Name x p) [] [] pos) (fun σ H Q => sp ([] ++ dvs) H Q (WE w σ)) :=
  ⟨fun pins s σ H Q I h => wpAny_Call_Name_kw (ld_glob I hg hm (PySem.W.callWith_K0 I.kIn hk (run_D (us := []) Fk hr hb hd tk I .nil h)) hdb)⟩
/-- the heart of a call: from the arguments to what the callee promises -/
theorem call_core {mp : List Nat} {fs : List S → FR} {ta : TAv} {np : Nat} (hcd : Consts dvs dds) (hmp : ∀ i ∈ mp, i + dds.length < np) (σ : L2.St) (H : Hp) (Q : VK) (q : tV (gX X) c w (vCall mp (fills dds fs) ta) σ H Q) (hnp : ∀ ss, fs ss ≠ .bad → ss.length = np) :
    tA (gX X) c w ta σ H fun vs H1 => spOf (gX X) np mp fs (vs ++ dvs) H1 Q (WE w σ) := by
  obtain ⟨τ, ρ, j, q⟩ := q
  refine ⟨τ, ρ, j, ?_⟩
  unfold vCall at q
  cases e1 : ta ρ with
  | bad => rw [e1] at q; exact q
  | exc x ρ' => rw [e1] at q; exact q
  | ok z =>
    obtain ⟨as, ρ1⟩ := z
    rw [e1] at q
    dsimp only [R.th] at q
    intro vs H1 τ1 ex1 j1 har
    cases e2 : argS ρ1 as with
    | none => rw [e2] at q; exact q.elim
    | some ss =>
      rw [e2] at q
      dsimp only at q
      by_cases hc : (slots as).Nodup ∧ calm mp 0 ss = true
      · rw [if_pos hc] at q
        obtain ⟨h1, h2, h3⟩ := j1.into hc.1 e2 har hc.2
        have hlen : (ss ++ dds.map S.fz).length = np := hnp _ fun z => by
          unfold fills at q
          rw [z] at q
          exact q
        have hl2 : ss.length + dds.length = np := by simpa using hlen
        have hA : Args (gX X) (inT as τ1) H1 (vs ++ dvs) (ss ++ dds.map S.fz) := by
          refine ⟨by simp only [List.length_append, List.length_map, h1.1, hcd.1], fun i s e => ?_⟩
          by_cases hi : i < ss.length
          · rw [List.getElem?_append_left hi] at e
            obtain ⟨v, a, b⟩ := h1.2 i s e
            exact ⟨v, by rw [List.getElem?_append_left (by rw [h1.1]; exact hi)]; exact a, b⟩
          · rw [List.getElem?_append_right (by omega), List.getElem?_map] at e
            cases e3 : dds[i - ss.length]? with
            | none => rw [e3] at e; cases e
            | some d =>
              rw [e3] at e; cases e
              obtain ⟨v, a, b⟩ := hcd.2 (gX X) (inT as τ1) H1 _ d e3
              exact ⟨v, by rw [List.getElem?_append_right (by rw [h1.1]; omega), h1.1]; exact a, .fz b⟩
        refine ⟨by rw [hA.1, hlen], inT as τ1, _, hA, fun i s e hn => ?_, h3, ?_⟩
        · by_cases hi : i < ss.length
          · rw [List.getElem?_append_left hi] at e
            exact h2 i s e hn
          · rw [List.getElem?_append_right (by omega), List.getElem?_map] at e
            cases e3 : dds[i - ss.length]? with
            | none => rw [e3] at e; cases e
            | some d => rw [e3] at e; cases e; rfl
        · have outs : ∀ {τ' H' l}, Outs (gX X) mp τ' H' (vs ++ dvs) l → Outs (gX X) mp τ' H' vs l := fun {τ' H' l} h => ⟨h.1, fun m i s a b => by
            obtain ⟨v, z1, z2⟩ := h.2 m i s a b
            have hi := hmp i (List.mem_of_getElem? a)
            rw [List.getElem?_append_left (by rw [h1.1]; omega)] at z1
            exact ⟨v, z1, z2⟩⟩
          unfold fills at q
          cases e4 : fs (ss ++ dds.map S.fz) with
          | bad => rw [e4] at q; exact q
          | ok s l =>
            rw [e4] at q
            dsimp only at q ⊢
            by_cases hl : l.length = mp.length
            · rw [if_pos hl] at q
              intro v H' τ' hp ho hw
              obtain ⟨b1, b2⟩ := j1.back hc.1 e2 har hc.2 hp (outs ho)
              exact q v H' _ (ex1.trans b1) b2 (hw.tr outT_ext outT_0)
            · rw [if_neg hl] at q; exact q.elim
          | exc x l =>
            rw [e4] at q
            dsimp only at q ⊢
            by_cases hl : l.length = mp.length
            · rw [if_pos hl] at q
              intro cls d H' τ' hp ho hx
              obtain ⟨b1, b2⟩ := j1.back hc.1 e2 har hc.2 hp (outs ho)
              obtain ⟨CC, x1, x2, x3⟩ := hx
              refine q cls d H' _ (ex1.trans b1) b2 ⟨CC, x1, x2, ?_⟩
              rcases x3 with x3 | ⟨y0, dd, vs', y1, y2, y3, y4⟩
              · exact .inl x3
              · exact .inr ⟨y0, dd, vs', y1, y2, y3, y4.tr outT_ext⟩
            · rw [if_neg hl] at q; exact q.elim
      · rw [if_neg hc] at q; exact q.elim
theorem fnSem_np {n np : Nat} {mp : List Nat} {t : TSt} {ss : List S} (h : fnSem n np mp t ss ≠ .bad) : ss.length = np := by
  unfold fnSem at h
  by_cases e : ss.length = np
  · exact e
  · rw [if_neg e] at h; exact absurd rfl h
/-- what is known of a def of the text -/
structure Kn (P : Program) (w : World) (K : PySem.W.Frag) (mg : Str → Option Value) (base : Heap) (x : Str) (k np : Nat) (mp : List Nat) (dds : List D) (fs : List S → FR) : Prop where
  ex : ∃ (f : Addr) (fd : FuncData) (ps : List Str) (dvs : List V) (ds : List Value), FnOk P w K mg base (L2N.CX P w) k f fd ps (spOf (gB K mg) np mp fs) ∧ mg x = some (.ref f) ∧ PySem.W.keepIn K (.ref f) = true ∧ Binds K fd ps ds ∧ Vals dvs ds ∧ Consts dvs dds
  hnp : ∀ ss, fs ss ≠ .bad → ss.length = np
  hmp : ∀ i ∈ mp, i + dds.length < np
theorem v_call {np : Nat} {mp : List Nat} {fs : List S → FR} {ta : TAv} (Kf : Kn X.prog X.w X.K X.mg X.base x k np mp dds fs) (hr : Room k X.A) (tk : L2N.Takes X w) (hg : Gl X x) (ha : PA X (e :: es) (tA (gX X) c w ta)) (hdb : (x == ("__debug__" : Str)) = false := by decide)
    (he : starEach (e :: es) X.env = (false, eval e X.env) :: starEach es X.env := by rfl) (hpl : (backTo pos (starEach es X.env)).any (·.1) = false := by rfl) : PE X (.Call (.Name x p) (e :: es) [] pos) (tV (gX X) c w (vCall mp (fills dds fs) ta)) := by
  obtain ⟨f, fd, ps, dvs, ds, h1, h2, h3, h4, h5, h6⟩ := Kf.ex
  exact PEw (pe_D h1 hr hg h2 h3 h4 h5 tk ha hdb he hpl) fun σ H Q q => call_core h6 Kf.hmp σ H Q q Kf.hnp
theorem v_call0 {np : Nat} {mp : List Nat} {fs : List S → FR} (Kf : Kn X.prog X.w X.K X.mg X.base x k np mp dds fs) (hr : Room k X.A) (tk : L2N.Takes X w) (hg : Gl X x) (hdb : (x == ("__debug__" : Str)) = false := by decide) : PE X (.Call (.Name x p) [] [] pos) (tV (gX X) c w (vCall mp (fills dds fs) aNo)) := by
  obtain ⟨f, fd, ps, dvs, ds, h1, h2, h3, h4, h5, h6⟩ := Kf.ex
  refine PEw (pe_D0 h1 hr hg h2 h3 h4 h5 tk hdb) fun σ H Q q => ?_
  obtain ⟨τ, ρ, j, r⟩ := call_core h6 Kf.hmp σ H Q q Kf.hnp
  exact r [] H τ .refl j ⟨rfl, fun i a e => by simp at e⟩
end
end VS
namespace VS
open PySem PySem.Spec PyProof.Rows L2

/-! ### operations -/
/-- what an operation gives: data, or a thing just made -/
inductive OO where
  | v (d : D) | n (s : S)
def tO (g : Gm) (c : JC) (t : Env → Option OO) : TE := fun σ H Q => ∃ τ ρ, J g c τ σ H ρ ∧ match t ρ with
  | some (.v d) => ∀ v H', Same H H' → J g c τ σ H' ρ → F g τ H' v d → Q v H'
  | some (.n s) => ∀ v H', J g c τ σ H' ρ → Nw g τ H H' v s → Q v H'
  | none => False
def oQ (t : Env → Option OO) : TQ := fun ρ => match t ρ with
  | some (.v d) => some (.fz d)
  | some (.n s) => some (.fz s.fr)
  | none => none
def oV (t : Env → Option OO) : TV := fun ρ => match t ρ with
  | some (.v d) => .ok (.fz d, ρ)
  | some (.n s) => .ok (s, ρ)
  | none => .bad
section
variable {X : Cx} {c : JC} {w : WX} {e : Expr}
theorem iq_o {t : Env → Option OO} (σ : L2.St) (H : Hp) (Q : VK) (z : tQ (gX X) c (oQ t) σ H Q) : tO (gX X) c t σ H Q := by
  obtain ⟨τ, ρ, s, j, e, q⟩ := z
  refine ⟨τ, ρ, j, ?_⟩
  unfold oQ at e
  cases e1 : t ρ with
  | none => rw [e1] at e; cases e
  | some o =>
    rw [e1] at e
    cases o with
    | v d => cases e; exact fun v H' sm j' f => q v H' [] sm j' (.fz f)
    | n s' => cases e; exact fun v H' j' n => q v H' [] n.same j' (.fz (j.newF n))
theorem q_o {t : Env → Option OO} (h : PE X e (tO (gX X) c t)) : PE X e (tQ (gX X) c (oQ t)) := PEw h iq_o
theorem iv_o {t : Env → Option OO} (σ : L2.St) (H : Hp) (Q : VK) (z : tV (gX X) c w (oV t) σ H Q) : tO (gX X) c t σ H Q := by
  obtain ⟨τ, ρ, j, q⟩ := z
  refine ⟨τ, ρ, j, ?_⟩
  unfold oV at q
  cases e1 : t ρ with
  | none => rw [e1] at q; exact q
  | some o =>
    rw [e1] at q
    cases o with
    | v d => exact fun v H' sm j' f => q v H' τ (.same sm) j' (.fz f)
    | n s' => exact fun v H' j' n => let ⟨τ', h1, h2, h3⟩ := j.new n; q v H' τ' h1 h2 h3

theorem v_o {t : Env → Option OO} (h : PE X e (tO (gX X) c t)) : PE X e (tV (gX X) c w (oV t)) := PEw h iv_o
/-- what an operation's rule asks, met -/
def OOk (g : Gm) (τ : Tg) (H : Hp) (o : Option OO) (Q : VK) : Prop := match o with
  | some (.v d) => ∀ v H', Same H H' → F g τ H' v d → Q v H'
  | some (.n s) => ∀ v H', Nw g τ H H' v s → Q v H'
  | none => False
def Op1 (X : Cx) (r : V → Hp → VK → Prop) (f : D → Option OO) : Prop := ∀ (τ : Tg) (H : Hp) (π : List Nat) (x : V) (s : S) (Q : VK), (∀ a, H a = none → τ a = none) → W (gX X) τ H π x s → OOk (gX X) τ H (f s.fr) Q → r x H Q
def Op2 (X : Cx) (r : R2) (f : D → D → Option OO) : Prop := ∀ (τ : Tg) (H : Hp) (π π' : List Nat) (x y : V) (s s' : S) (Q : VK), (∀ a, H a = none → τ a = none) → W (gX X) τ H π x s → W (gX X) τ H π' y s' → OOk (gX X) τ H (f s.fr s'.fr) Q → r x y H Q
def o1 (f : D → Option OO) (t : TQ) : Env → Option OO := fun ρ => (t ρ).bind fun s => f s.fr
def o2 (f : D → D → Option OO) (t u : TQ) : Env → Option OO := fun ρ => (t ρ).bind fun s => (u ρ).bind fun s' => f s.fr s'.fr
def R.op (ρ : Env) : Option OO → R (S × Env)
  | some (.v d) => .ok (.fz d, ρ)
  | some (.n s) => .ok (s, ρ)
  | none => .bad
def v1 (f : D → Option OO) (t : TV) : TV := fun ρ => (t ρ).th fun s ρ1 => R.op ρ1 (f s.fr)
def v2 (f : D → D → Option OO) (t u : TV) : TV := fun ρ => (t ρ).th fun s ρ1 => (u ρ1).th fun s' ρ2 => R.op ρ2 (f s.fr s'.fr)
theorem dom0 {g : Gm} {τ : Tg} {σ : L2.St} {H : Hp} {ρ : Env} (j : J g c τ σ H ρ) : ∀ a, H a = none → τ a = none := fun a h => j.free h
theorem io_1 {r : V → Hp → VK → Prop} {f : D → Option OO} {t : TQ} (ho : Op1 X r f) (σ : L2.St) (H : Hp) (Q : VK) (z : tO (gX X) c (o1 f t) σ H Q) : tQ (gX X) c t σ H fun x H1 => r x H1 Q := by
  obtain ⟨τ, ρ, j, q⟩ := z
  unfold o1 at q
  cases e1 : t ρ with
  | none => rw [e1] at q; exact q.elim
  | some s =>
    rw [e1] at q
    dsimp only [Option.bind] at q
    refine ⟨τ, ρ, s, j, e1, fun v H1 π sm j1 hw => ho τ H1 π v s Q (dom0 j1) hw ?_⟩
    unfold OOk
    cases e2 : f s.fr with
    | none => rw [e2] at q; exact q
    | some o =>
      rw [e2] at q
      cases o with
      | v d => exact fun v H2 s2 f2 => q v H2 (sm.trans s2) (j1.same s2) f2
      | n s' => exact fun v H2 n => q v H2 (j1.same n.same) (let ⟨p, H3, a, b, c, d⟩ := n; ⟨p, H3, a, sm.trans b, c, d⟩)
theorem o_1 {r : V → Hp → VK → Prop} {f : D → Option OO} {t : TQ} (h : PE X e (fun σ H Q => tQ (gX X) c t σ H fun x H1 => r x H1 Q)) (ho : Op1 X r f) : PE X e (tO (gX X) c (o1 f t)) := PEw h (io_1 ho)
theorem io_2 {r : R2} {f : D → D → Option OO} {t u : TQ} (ho : Op2 X r f) (σ : L2.St) (H : Hp) (Q : VK) (z : tO (gX X) c (o2 f t u) σ H Q) : tQ (gX X) c t σ H fun x H1 => tQ (gX X) c u σ H1 fun y H2 => r x y H2 Q := by
  obtain ⟨τ, ρ, j, q⟩ := z
  unfold o2 at q
  cases e1 : t ρ with
  | none => rw [e1] at q; exact q.elim
  | some s =>
    rw [e1] at q
    dsimp only [Option.bind] at q
    cases e3 : u ρ with
    | none => rw [e3] at q; exact q.elim
    | some s' =>
      rw [e3] at q
      dsimp only at q
      refine ⟨τ, ρ, s, j, e1, fun v H1 π sm j1 hw => ⟨τ, ρ, s', j1, e3, fun v' H2 π' sm' j2 hw' => ho τ H2 π π' v v' s s' Q (dom0 j2) (hw.same sm') hw' ?_⟩⟩
      unfold OOk
      cases e2 : f s.fr s'.fr with
      | none => rw [e2] at q; exact q
      | some o =>
        rw [e2] at q
        cases o with
        | v d => exact fun v H3 s2 f2 => q v H3 ((sm.trans sm').trans s2) (j2.same s2) f2
        | n s' => exact fun v H3 n => q v H3 (j2.same n.same) (let ⟨p, H4, a, b, c, d⟩ := n; ⟨p, H4, a, (sm.trans sm').trans b, c, d⟩)
theorem o_2 {r : R2} {f : D → D → Option OO} {t u : TQ} (h : PE X e (fun σ H Q => tQ (gX X) c t σ H fun x H1 => tQ (gX X) c u σ H1 fun y H2 => r x y H2 Q)) (ho : Op2 X r f) : PE X e (tO (gX X) c (o2 f t u)) := PEw h (io_2 ho)
theorem op_fin {g : Gm} {τ τ0 : Tg} {σ : L2.St} {H H0 : Hp} {ρ : Env} {o : Option OO} {Q : VK} (j : J g c τ σ H ρ) (ex : Ext τ0 H0 τ H) (q : match R.op ρ o with
  | .ok (s, ρ') => ∀ v H' τ', Ext τ0 H0 τ' H' → J g c τ' σ H' ρ' → W g τ' H' [0] v s → Q v H'
  | .exc x ρ' => ∀ cls d H' τ', Ext τ0 H0 τ' H' → J g c τ' σ H' ρ' → XR g τ' H' x cls d → w cls d σ H'
  | .bad => False) : OOk g τ H o Q := by
  unfold OOk
  cases o with
  | none => exact q
  | some o =>
    cases o with
    | v d => exact fun v H' sm f => q v H' τ (ex.trans (.same sm)) (j.same sm) (.fz f)
    | n s => exact fun v H' n => let ⟨τ', h1, h2, h3⟩ := j.new n; q v H' τ' (ex.trans h1) h2 h3
theorem iv_1 {r : V → Hp → VK → Prop} {f : D → Option OO} {t : TV} (ho : Op1 X r f) (σ : L2.St) (H : Hp) (Q : VK) (z : tV (gX X) c w (v1 f t) σ H Q) : tV (gX X) c w t σ H fun x H1 => r x H1 Q := by
  obtain ⟨τ, ρ, j, q⟩ := z
  refine ⟨τ, ρ, j, ?_⟩
  unfold v1 at q
  cases e1 : t ρ with
  | bad => rw [e1] at q; exact q
  | exc x ρ' => rw [e1] at q; exact q
  | ok z =>
    obtain ⟨s, ρ1⟩ := z
    rw [e1] at q
    dsimp only [R.th] at q
    exact fun v H1 τ1 a1 a2 a3 => ho _ H1 [0] v (.fz s.fr) Q (dom0 a2.freeze) (.fz a3.freeze) (op_fin a2.freeze (a1.trans retag_ext) q)
theorem v_1 {r : V → Hp → VK → Prop} {f : D → Option OO} {t : TV} (h : PE X e (fun σ H Q => tV (gX X) c w t σ H fun x H1 => r x H1 Q)) (ho : Op1 X r f) : PE X e (tV (gX X) c w (v1 f t)) := PEw h (iv_1 ho)
theorem iv_2 {r : R2} {f : D → D → Option OO} {t u : TV} (ho : Op2 X r f) (σ : L2.St) (H : Hp) (Q : VK) (z : tV (gX X) c w (v2 f t u) σ H Q) : tV (gX X) c w t σ H fun x H1 => tV (gX X) c w u σ H1 fun y H2 => r x y H2 Q := by
  obtain ⟨τ, ρ, j, q⟩ := z
  refine ⟨τ, ρ, j, ?_⟩
  unfold v2 at q
  cases e1 : t ρ with
  | bad => rw [e1] at q; exact q
  | exc x ρ' => rw [e1] at q; exact q
  | ok z =>
    obtain ⟨s, ρ1⟩ := z
    rw [e1] at q
    dsimp only [R.th] at q
    intro v H1 τ1 a1 a2 a3
    refine ⟨_, ρ1, a2.freeze, ?_⟩
    cases e3 : u ρ1 with
    | bad => rw [e3] at q; exact q
    | exc x ρ' => rw [e3] at q; exact fun cls d H2 τ2 b1 b2 b3 => q cls d H2 τ2 ((a1.trans retag_ext).trans b1) b2 b3
    | ok z =>
      obtain ⟨s', ρ2⟩ := z
      rw [e3] at q
      dsimp only at q
      exact fun v' H2 τ2 b1 b2 b3 => ho _ H2 [0] [0] v v' (.fz s.fr) (.fz s'.fr) Q (dom0 b2.freeze) (.fz ((a3.freeze.tr b1).tr retag_ext)) (.fz b3.freeze) (op_fin b2.freeze (((a1.trans retag_ext).trans b1).trans retag_ext) q)
theorem v_2 {r : R2} {f : D → D → Option OO} {t u : TV} (h : PE X e (fun σ H Q => tV (gX X) c w t σ H fun x H1 => tV (gX X) c w u σ H1 fun y H2 => r x y H2 Q)) (ho : Op2 X r f) : PE X e (tV (gX X) c w (v2 f t u)) := PEw h (iv_2 ho)
end

/-! ### what a value is, by what it holds -/
section
variable {g : Gm} {τ : Tg} {H : Hp} {π : List Nat} {v : V} {s : S}
theorem W.view (h : W g τ H π v s) : F g (fun _ => none) H v s.fr := h.fr (fun a o t e => ⟨rfl, e⟩) fun a r o t e => ⟨rfl, e⟩
theorem W.int_of {i : Int} (h : W g τ H π v s) (e : s.fr = .int i) : v = .int i := by
  have f := h.view
  rw [e] at f
  cases f; rfl
theorem W.bl_of {b : Bool} (h : W g τ H π v s) (e : s.fr = .bl b) : v = .bl b := by
  have f := h.view
  rw [e] at f
  cases f; rfl
theorem W.non_of (h : W g τ H π v s) (e : s.fr = .non) : v = .non := by
  have f := h.view
  rw [e] at f
  cases f; rfl
theorem W.str_of {x : Str} (h : W g τ H π v s) (e : s.fr = .str x) : v = .str x ∧ PyData.strOk x = true := by
  have f := h.view
  rw [e] at f
  cases f with
  | str x hx => exact ⟨rfl, hx⟩
theorem W.lst_of {ds : List D} (h : W g τ H π v s) (e : s.fr = .lst ds) : ∃ a vs, v = .ref a ∧ H a = some (.lst vs) ∧ Fs g τ H vs ds := by
  cases h with
  | fz f => cases f <;> simp [S.fr] at e <;> (subst e; exact ⟨_, _, rfl, by assumption, by assumption⟩)
  | lst h1 h2 h3 => simp [S.fr] at e; subst e; exact ⟨_, _, rfl, h1, h3⟩
  | dK h1 h2 h3 => simp [S.fr] at e
  | dT h1 h2 h3 => simp [S.fr] at e
  | obj h1 h2 h3 h4 => simp [S.fr] at e
theorem W.tup_of {ds : List D} (h : W g τ H π v s) (e : s.fr = .tup ds) : ∃ a vs, v = .ref a ∧ H a = some (.tup vs) ∧ τ a = none ∧ Fs g τ H vs ds := by
  cases h with
  | fz f => cases f <;> simp [S.fr] at e <;> (subst e; exact ⟨_, _, rfl, by assumption, by assumption, by assumption⟩)
  | lst h1 h2 h3 => simp [S.fr] at e
  | dK h1 h2 h3 => simp [S.fr] at e
  | dT h1 h2 h3 => simp [S.fr] at e
  | obj h1 h2 h3 h4 => simp [S.fr] at e
theorem W.scr_of {ns : List Int} (h : W g τ H π v s) (e : s.fr = .scr ns) : ∃ a, v = .ref a ∧ SqL g.K H a (ns.map V.int) := by
  have f := h.view
  rw [e] at f
  cases f with
  | scr q =>
    refine ⟨_, rfl, ?_⟩
    rcases q with ⟨o, e, _⟩ | q
    · exact .inl (.inr ⟨o, e⟩)
    · rcases q with (z | ⟨_, z⟩) | z
      · cases z
      · cases z
      · exact .inr z
theorem W.dK_of {ks : List (List Key)} {ds : List D} (h : W g τ H π v s) (e : s.fr = .dct false ks ds) : ∃ a kvs, v = .ref a ∧ H a = some (.dK kvs) ∧ ks = kvs.map (fun p => [p.1]) ∧ Fs g τ H (kvs.map Prod.snd) ds := by
  cases h with
  | fz f => cases f <;> simp [S.fr] at e <;> (obtain ⟨e1, e2⟩ := e; subst e2; exact ⟨_, _, rfl, by assumption, e1.symm, by assumption⟩)
  | dK h1 h2 h3 => simp [S.fr] at e; obtain ⟨e1, e2⟩ := e; subst e2; exact ⟨_, _, rfl, h1, e1.symm, h3⟩
  | lst h1 h2 h3 => simp [S.fr] at e
  | dT h1 h2 h3 => simp [S.fr] at e
  | obj h1 h2 h3 h4 => simp [S.fr] at e
theorem W.dT_of {ks : List (List Key)} {ds : List D} (h : W g τ H π v s) (e : s.fr = .dct true ks ds) : ∃ a kvs, v = .ref a ∧ H a = some (.dT kvs) ∧ ks = kvs.map Prod.fst ∧ Fs g τ H (kvs.map Prod.snd) ds := by
  cases h with
  | fz f => cases f <;> simp [S.fr] at e <;> (obtain ⟨e1, e2⟩ := e; subst e2; exact ⟨_, _, rfl, by assumption, e1.symm, by assumption⟩)
  | dT h1 h2 h3 => simp [S.fr] at e; obtain ⟨e1, e2⟩ := e; subst e2; exact ⟨_, _, rfl, h1, e1.symm, h3⟩
  | lst h1 h2 h3 => simp [S.fr] at e
  | dK h1 h2 h3 => simp [S.fr] at e
  | obj h1 h2 h3 h4 => simp [S.fr] at e
/-- a list just made -/
theorem Nw.lst {K : Hp} {p : Addr} {vs : List V} {ds : List D} (hn : H p = none) (f : Fs g τ H vs ds) : Nw g τ H (upd H p (.lst vs)) (.ref p) (.lst ds) :=
  ⟨p, H, rfl, .refl H, hn, fun b o e => by rw [upd_ne (ne_of_none e hn)]; exact e, vs, upd_same, f⟩
theorem same_new {p : Addr} {o : HO} (hn : H p = none) : Same H (upd H p o) := fun b u e => by rw [upd_ne (ne_of_none e hn)]; exact e
theorem F.tupN {p : Addr} {vs : List V} {ds : List D} (hd : ∀ a, H a = none → τ a = none) (hn : H p = none) (f : Fs g τ H vs ds) : F g τ (upd H p (.tup vs)) (.ref p) (.tup ds) :=
  .tup upd_same (hd p hn) (f.same (same_new hn))
end
theorem strOk_app {x y : Str} (hx : PyData.strOk x = true) (hy : PyData.strOk y = true) : PyData.strOk (x ++ y) = true := by
  have e : (x ++ y).cps = x.cps ++ y.cps := rfl
  unfold PyData.strOk at *
  rw [e, Array.all_append, hx, hy]; rfl
def R2or (r r' : R2) : R2 := fun x y H Q => r x y H Q ∨ r' x y H Q
theorem OpR_or {X : Cx} {f : Value → Value → Sem Value} {r r' : R2} (h : OpR X f r) (h' : OpR X f r') : OpR X f (R2or r r') := fun pins s σ H x y v u Q I rx ry q =>
  q.elim (h pins s σ H x y v u Q I rx ry) (h' pins s σ H x y v u Q I rx ry)

/-! ### arithmetic -/
def dAdd : D → D → Option OO
  | .int i, .int j => some (.v (.int (i + j)))
  | .str x, .str y => if x.length + y.length ≤ sizeLine then some (.v (.str (x ++ y))) else none
  | .lst xs, .lst ys => if xs.length + ys.length ≤ sizeLine then some (.n (.lst (xs ++ ys))) else none
  | .tup xs, .tup ys => if xs.length + ys.length ≤ sizeLine ∧ xs ≠ [] ∧ ys ≠ [] then some (.v (.tup (xs ++ ys))) else none
  | _, _ => none
section
variable {X : Cx}
abbrev rAddA (X : Cx) : R2 := R2or (rI0 fun i j => .int (i + j)) (R2or (fun x y H Q => ∃ i j, x = .str i ∧ y = .str j ∧ i.length + j.length ≤ sizeLine ∧ Q (.str (i ++ j)) H) (R2or rCat (rCatT X.K)))
theorem r_add : OpR X (binaryOp .Add) (rAddA X) := OpR_or op_add (OpR_or op_add_str (OpR_or op_cat op_catT))
theorem Fs.nil_iff {g : Gm} {τ : Tg} {H : Hp} {vs : List V} {ds : List D} (h : Fs g τ H vs ds) : vs = [] ↔ ds = [] := by
  cases h <;> simp
theorem d_add : Op2 X (rAddA X) dAdd := fun τ H π π' x y s s' Q hd hx hy q => by
  unfold dAdd at q
  split at q
  · rename_i i j e1 e2
    exact .inl ⟨i, j, hx.int_of e1, hy.int_of e2, q _ H (.refl H) (.int _)⟩
  · rename_i a b e1 e2
    by_cases hl : a.length + b.length ≤ sizeLine
    · rw [if_pos hl] at q
      obtain ⟨h1, o1⟩ := hx.str_of e1
      obtain ⟨h2, o2⟩ := hy.str_of e2
      exact .inr (.inl ⟨a, b, h1, h2, hl, q _ H (.refl H) (.str _ (strOk_app o1 o2))⟩)
    · rw [if_neg hl] at q; exact q.elim
  · rename_i xs ys e1 e2
    by_cases hl : xs.length + ys.length ≤ sizeLine
    · rw [if_pos hl] at q
      obtain ⟨a, vs, rfl, h1, f1⟩ := hx.lst_of e1
      obtain ⟨b, ws, rfl, h2, f2⟩ := hy.lst_of e2
      exact .inr (.inr (.inl ⟨a, b, vs, ws, rfl, rfl, h1, h2, by rw [f1.len, f2.len]; exact hl, fun p hn => q _ _ (Nw.lst (K := H) hn (f1.app f2))⟩))
    · rw [if_neg hl] at q; exact q.elim
  · rename_i xs ys e1 e2
    by_cases hl : xs.length + ys.length ≤ sizeLine ∧ xs ≠ [] ∧ ys ≠ []
    · rw [if_pos hl] at q
      obtain ⟨a, vs, rfl, h1, t1, f1⟩ := hx.tup_of e1
      obtain ⟨b, ws, rfl, h2, t2, f2⟩ := hy.tup_of e2
      exact .inr (.inr (.inr ⟨a, b, vs, ws, rfl, rfl, .inl (.inl h1), .inl (.inl h2), fun z => hl.2.1 (f1.nil_iff.mp z), by rw [f1.len, f2.len]; exact hl.1, fun z => absurd (f2.nil_iff.mp z) hl.2.2,
        fun _ p hn => q _ _ (same_new hn) (F.tupN hd hn (f1.app f2))⟩))
    · rw [if_neg hl] at q; exact q.elim
  · exact q.elim
def dSub : D → D → Option OO
  | .int i, .int j => some (.v (.int (i - j)))
  | _, _ => none
theorem d_sub : Op2 X (rI0 fun i j => .int (i - j)) dSub := fun τ H π π' x y s s' Q hd hx hy q => by
  unfold dSub at q
  split at q
  · rename_i i j e1 e2
    exact ⟨i, j, hx.int_of e1, hy.int_of e2, q _ H (.refl H) (.int _)⟩
  · exact q.elim
/-- * of ints; of a list and an int -/
def dMul : D → D → Option OO
  | .int i, .int j => if i.natAbs.log2 + j.natAbs.log2 < 1000000 then some (.v (.int (i * j))) else none
  | .lst xs, .int k => if -(2 ^ 63) ≤ k ∧ k < 2 ^ 63 ∧ xs.length * k.toNat ≤ sizeLine then some (.n (.lst (List.replicate k.toNat xs).flatten)) else none
  | _, _ => none
theorem r_mul : OpR X (binaryOp .Mult) (R2or (rI CMulW fun i j => .int (i * j)) rRep) := OpR_or op_mulW op_rep
theorem Fs.rep {g : Gm} {τ : Tg} {H : Hp} {vs : List V} {ds : List D} (h : Fs g τ H vs ds) : ∀ n, Fs g τ H (List.replicate n vs).flatten (List.replicate n ds).flatten
  | 0 => .nil
  | n + 1 => by rw [List.replicate_succ, List.replicate_succ, List.flatten_cons, List.flatten_cons]; exact h.app (Fs.rep h n)
theorem d_mul : Op2 X (R2or (rI CMulW fun i j => .int (i * j)) rRep) dMul := fun τ H π π' x y s s' Q hd hx hy q => by
  unfold dMul at q
  split at q
  · rename_i i j e1 e2
    by_cases hl : i.natAbs.log2 + j.natAbs.log2 < 1000000
    · rw [if_pos hl] at q
      exact .inl ⟨i, j, hx.int_of e1, hy.int_of e2, hl, q _ H (.refl H) (.int _)⟩
    · rw [if_neg hl] at q; exact q.elim
  · rename_i xs k e1 e2
    by_cases hl : -(2 ^ 63) ≤ k ∧ k < 2 ^ 63 ∧ xs.length * k.toNat ≤ sizeLine
    · rw [if_pos hl] at q
      obtain ⟨a, vs, rfl, h1, f1⟩ := hx.lst_of e1
      exact .inr ⟨a, k, vs, rfl, hy.int_of e2, h1, hl.1, hl.2.1, by rw [f1.len]; exact hl.2.2, fun p hn => q _ _ (Nw.lst (K := H) hn (f1.rep _))⟩
    · rw [if_neg hl] at q; exact q.elim
  · exact q.elim
/-- // by a positive number, or a small one -/
def dDiv : D → D → Option OO
  | .int i, .int j => if 0 < j ∧ j.natAbs.log2 < 9000 then some (.v (.int (i / j))) else if j ≠ 0 ∧ j.natAbs < 1073741824 then some (.v (.int (i.fdiv j))) else none
  | _, _ => none
theorem r_div : OpR X (binaryOp .FloorDiv) (R2or (rI CDivW fun i j => .int (i / j)) (rI CDivN fun i j => .int (i.fdiv j))) := OpR_or op_fdivW op_fdivN
theorem d_div : Op2 X (R2or (rI CDivW fun i j => .int (i / j)) (rI CDivN fun i j => .int (i.fdiv j))) dDiv := fun τ H π π' x y s s' Q hd hx hy q => by
  unfold dDiv at q
  split at q
  · rename_i i j e1 e2
    by_cases hl : 0 < j ∧ j.natAbs.log2 < 9000
    · rw [if_pos hl] at q
      exact .inl ⟨i, j, hx.int_of e1, hy.int_of e2, hl, q _ H (.refl H) (.int _)⟩
    · rw [if_neg hl] at q
      by_cases hn : j ≠ 0 ∧ j.natAbs < 1073741824
      · rw [if_pos hn] at q
        exact .inr ⟨i, j, hx.int_of e1, hy.int_of e2, hn, q _ H (.refl H) (.int _)⟩
      · rw [if_neg hn] at q; exact q.elim
  · exact q.elim
def dMod : D → D → Option OO
  | .int i, .int j => if 0 < j then some (.v (.int (i % j))) else if j ≠ 0 then some (.v (.int (i.fmod j))) else none
  | _, _ => none
theorem r_mod : OpR X (binaryOp .Mod) (R2or (rI (fun _ j => 0 < j) fun i j => .int (i % j)) (rI (fun _ j => j ≠ 0) fun i j => .int (i.fmod j))) := OpR_or op_mod op_modN
theorem d_mod : Op2 X (R2or (rI (fun _ j => 0 < j) fun i j => .int (i % j)) (rI (fun _ j => j ≠ 0) fun i j => .int (i.fmod j))) dMod := fun τ H π π' x y s s' Q hd hx hy q => by
  unfold dMod at q
  split at q
  · rename_i i j e1 e2
    by_cases hl : 0 < j
    · rw [if_pos hl] at q
      exact .inl ⟨i, j, hx.int_of e1, hy.int_of e2, hl, q _ H (.refl H) (.int _)⟩
    · rw [if_neg hl] at q
      by_cases hn : j ≠ 0
      · rw [if_pos hn] at q
        exact .inr ⟨i, j, hx.int_of e1, hy.int_of e2, hn, q _ H (.refl H) (.int _)⟩
      · rw [if_neg hn] at q; exact q.elim
  · exact q.elim
def dPow : D → D → Option OO
  | .int i, .int j => if 0 ≤ j ∧ j ≤ 1000000 ∧ i.natAbs < 2 ^ 64 then some (.v (.int (i ^ j.toNat))) else none
  | _, _ => none
theorem d_pow : Op2 X (rI CPow fun i j => .int (i ^ j.toNat)) dPow := fun τ H π π' x y s s' Q hd hx hy q => by
  unfold dPow at q
  split at q
  · rename_i i j e1 e2
    by_cases hl : 0 ≤ j ∧ j ≤ 1000000 ∧ i.natAbs < 2 ^ 64
    · rw [if_pos hl] at q
      exact ⟨i, j, hx.int_of e1, hy.int_of e2, hl, q _ H (.refl H) (.int _)⟩
    · rw [if_neg hl] at q; exact q.elim
  · exact q.elim
def dNeg : D → Option OO
  | .int i => some (.v (.int (-i)))
  | _ => none
theorem d_neg : Op1 X (rU fun i => .int (-i)) dNeg := fun τ H π x s Q hd hx q => by
  unfold dNeg at q
  split at q
  · rename_i i e1
    exact ⟨i, hx.int_of e1, q _ H (.refl H) (.int _)⟩
  · exact q.elim

section
variable {c : JC} {w : WX} {a b : Expr} {pos : Pos}
theorem o_bin {op : Operator} {r : R2} {f : D → D → Option OO} {ta tb : TQ} (hr : OpR X (binaryOp op) r) (hf : Op2 X r f) (ha : PE X a (tQ (gX X) c ta)) (hb : PE X b (tQ (gX X) c tb)) : PE X (.BinOp a op b pos) (tO (gX X) c (o2 f ta tb)) := o_2 (pe_op hr ha hb) hf
theorem v_bin {op : Operator} {r : R2} {f : D → D → Option OO} {ta tb : TV} (hr : OpR X (binaryOp op) r) (hf : Op2 X r f) (ha : PE X a (tV (gX X) c w ta)) (hb : PE X b (tV (gX X) c w tb)) : PE X (.BinOp a op b pos) (tV (gX X) c w (v2 f ta tb)) := v_2 (pe_op hr ha hb) hf
theorem o_un {op : UnaryOp} {r : V → Hp → VK → Prop} {f : D → Option OO} {ta : TQ} (hr : UnR X (unaryOp op) r) (hf : Op1 X r f) (ha : PE X a (tQ (gX X) c ta)) : PE X (.UnaryOp op a pos) (tO (gX X) c (o1 f ta)) := o_1 (pe_un hr ha) hf
theorem v_un {op : UnaryOp} {r : V → Hp → VK → Prop} {f : D → Option OO} {ta : TV} (hr : UnR X (unaryOp op) r) (hf : Op1 X r f) (ha : PE X a (tV (gX X) c w ta)) : PE X (.UnaryOp op a pos) (tV (gX X) c w (v1 f ta)) := v_1 (pe_un hr ha) hf
theorem o_cmp {op : CmpOp} {r : R2} {f : D → D → Option OO} {ta tb : TQ} (hr : OpR X (compareOp op) r) (hf : Op2 X r f) (ha : PE X a (tQ (gX X) c ta)) (hb : PE X b (tQ (gX X) c tb)) (hm : behindInMarks op b = false := by first | exact nobehind _ (by decide) (by decide) | rfl) : PE X (.Compare a [op] [b] pos) (tO (gX X) c (o2 f ta tb)) := o_2 (pe_cmpR hr ha hb hm) hf
theorem v_cmp {op : CmpOp} {r : R2} {f : D → D → Option OO} {ta tb : TV} (hr : OpR X (compareOp op) r) (hf : Op2 X r f) (ha : PE X a (tV (gX X) c w ta)) (hb : PE X b (tV (gX X) c w tb)) (hm : behindInMarks op b = false := by first | exact nobehind _ (by decide) (by decide) | rfl) : PE X (.Compare a [op] [b] pos) (tV (gX X) c w (v2 f ta tb)) := v_2 (pe_cmpR hr ha hb hm) hf
/-- .. as tests -/
theorem b_cmp {op : CmpOp} {r : R2} {f : D → D → Option OO} {ta tb : TQ} (hr : OpR X (compareOp op) r) (hf : Op2 X r f) (ha : PE X a (tQ (gX X) c ta)) (hb : PE X b (tQ (gX X) c tb)) (hm : behindInMarks op b = false := by first | exact nobehind _ (by decide) (by decide) | rfl) : PT X (.Compare a [op] [b] pos) (tTV (gX X) c w (bC (oV (o2 f ta tb)))) :=
  b_c (pt_cmpR hr ha hb hm) fun σ H Q z => io_2 hf σ H Q (iv_o σ H Q z)
theorem b_vcmp {op : CmpOp} {r : R2} {f : D → D → Option OO} {ta tb : TV} (hr : OpR X (compareOp op) r) (hf : Op2 X r f) (ha : PE X a (tV (gX X) c w ta)) (hb : PE X b (tV (gX X) c w tb)) (hm : behindInMarks op b = false := by first | exact nobehind _ (by decide) (by decide) | rfl) : PT X (.Compare a [op] [b] pos) (tTV (gX X) c w (bC (v2 f ta tb))) :=
  b_c (pt_cmpR hr ha hb hm) fun σ H Q z => iv_2 hf σ H Q z
end
/-! ### comparisons -/
def D.eqv (d e : D) : Bool := PyData.eqv d.py e.py
def dEq (d e : D) : Option OO := if d.eqOk && e.eqOk then some (.v (.bl (D.eqv d e))) else none
def dNe (d e : D) : Option OO := if d.eqOk && e.eqOk then some (.v (.bl (!D.eqv d e))) else none
theorem d_eq : Op2 X (rEqD X.K) dEq := fun τ H π π' x y s s' Q hd hx hy q => by
  unfold dEq at q
  by_cases hk : (s.fr.eqOk && s'.fr.eqOk) = true
  · rw [if_pos hk] at q
    rw [Bool.and_eq_true] at hk
    obtain ⟨h1, h2⟩ := hx.view.shaped hk.1
    obtain ⟨h3, h4⟩ := hy.view.shaped hk.2
    exact ⟨_, _, h1, h3, h2, h4, q _ H (.refl H) (.bl _)⟩
  · rw [if_neg hk] at q; exact q.elim
theorem d_ne : Op2 X (rNeD X.K) dNe := fun τ H π π' x y s s' Q hd hx hy q => by
  unfold dNe at q
  by_cases hk : (s.fr.eqOk && s'.fr.eqOk) = true
  · rw [if_pos hk] at q
    rw [Bool.and_eq_true] at hk
    obtain ⟨h1, h2⟩ := hx.view.shaped hk.1
    obtain ⟨h3, h4⟩ := hy.view.shaped hk.2
    exact ⟨_, _, h1, h3, h2, h4, q _ H (.refl H) (.bl _)⟩
  · rw [if_neg hk] at q; exact q.elim
def strLt (x y : Str) : Bool := decide (x.cps.toList < y.cps.toList)
def dLt : D → D → Option OO
  | .int i, .int j => some (.v (.bl (decide (i < j))))
  | .str x, .str y => some (.v (.bl (strLt x y)))
  | _, _ => none
def dLe : D → D → Option OO
  | .int i, .int j => some (.v (.bl (decide (i ≤ j))))
  | .str x, .str y => some (.v (.bl (!strLt y x)))
  | _, _ => none
def dGt : D → D → Option OO
  | .int i, .int j => some (.v (.bl (decide (j < i))))
  | .str x, .str y => some (.v (.bl (strLt y x)))
  | _, _ => none
def dGe : D → D → Option OO
  | .int i, .int j => some (.v (.bl (decide (j ≤ i))))
  | .str x, .str y => some (.v (.bl (!strLt x y)))
  | _, _ => none
abbrev rS2 (p : Str → Str → Bool) : R2 := fun x y H Q => ∃ i j, x = .str i ∧ y = .str j ∧ Q (.bl (p i j)) H
theorem r_lt : OpR X (compareOp .Lt) (R2or (rI0 fun i j => .bl (decide (i < j))) (rS2 strLt)) := OpR_or op_lt op_lt_str
theorem r_le : OpR X (compareOp .LtE) (R2or (rI0 fun i j => .bl (decide (i ≤ j))) (rS2 fun i j => !strLt j i)) := OpR_or op_le op_le_str
theorem r_gt : OpR X (compareOp .Gt) (R2or (rI0 fun i j => .bl (decide (j < i))) (rS2 fun i j => strLt j i)) := OpR_or op_gt op_gt_str
theorem r_ge : OpR X (compareOp .GtE) (R2or (rI0 fun i j => .bl (decide (j ≤ i))) (rS2 fun i j => !strLt i j)) := OpR_or op_ge op_ge_str
theorem d_ord {f : D → D → Option OO} {p : Int → Int → Bool} {q : Str → Str → Bool} (h1 : ∀ i j, f (.int i) (.int j) = some (.v (.bl (p i j)))) (h2 : ∀ i j, f (.str i) (.str j) = some (.v (.bl (q i j))))
    (h3 : ∀ d e, f d e = none ∨ (∃ i j, d = .int i ∧ e = .int j) ∨ ∃ i j, d = .str i ∧ e = .str j) : Op2 X (R2or (rI0 fun i j => .bl (p i j)) (rS2 q)) f := fun τ H π π' x y s s' Q hd hx hy h => by
  rcases h3 s.fr s'.fr with e | ⟨i, j, e1, e2⟩ | ⟨i, j, e1, e2⟩
  · rw [e] at h; exact h.elim
  · rw [e1, e2, h1] at h
    exact .inl ⟨i, j, hx.int_of e1, hy.int_of e2, h _ H (.refl H) (.bl _)⟩
  · rw [e1, e2, h2] at h
    exact .inr ⟨i, j, (hx.str_of e1).1, (hy.str_of e2).1, h _ H (.refl H) (.bl _)⟩
theorem d_lt : Op2 X (R2or (rI0 fun i j => .bl (decide (i < j))) (rS2 strLt)) dLt := d_ord (fun _ _ => rfl) (fun _ _ => rfl) fun d e => by
  unfold dLt; split <;> first | exact .inr (.inl ⟨_, _, rfl, rfl⟩) | exact .inr (.inr ⟨_, _, rfl, rfl⟩) | exact .inl rfl
theorem d_le : Op2 X (R2or (rI0 fun i j => .bl (decide (i ≤ j))) (rS2 fun i j => !strLt j i)) dLe := d_ord (fun _ _ => rfl) (fun _ _ => rfl) fun d e => by
  unfold dLe; split <;> first | exact .inr (.inl ⟨_, _, rfl, rfl⟩) | exact .inr (.inr ⟨_, _, rfl, rfl⟩) | exact .inl rfl
theorem d_gt : Op2 X (R2or (rI0 fun i j => .bl (decide (j < i))) (rS2 fun i j => strLt j i)) dGt := d_ord (fun _ _ => rfl) (fun _ _ => rfl) fun d e => by
  unfold dGt; split <;> first | exact .inr (.inl ⟨_, _, rfl, rfl⟩) | exact .inr (.inr ⟨_, _, rfl, rfl⟩) | exact .inl rfl
theorem d_ge : Op2 X (R2or (rI0 fun i j => .bl (decide (j ≤ i))) (rS2 fun i j => !strLt i j)) dGe := d_ord (fun _ _ => rfl) (fun _ _ => rfl) fun d e => by
  unfold dGe; split <;> first | exact .inr (.inl ⟨_, _, rfl, rfl⟩) | exact .inr (.inr ⟨_, _, rfl, rfl⟩) | exact .inl rfl
end
end VS
namespace VS
open PySem PySem.Spec PyProof.Rows L2

section
variable {X : Cx} {c : JC} {w : WX} {e a b : Expr} {pos : Pos}
def oOr (t u : Env → Option OO) : Env → Option OO := fun ρ => match t ρ with
  | some o => some o
  | none => u ρ
theorem o_or {t u : Env → Option OO} (h : PE X e (tO (gX X) c t)) (h' : PE X e (tO (gX X) c u)) : PE X e (tO (gX X) c (oOr t u)) := by
  refine ⟨fun pins s σ H Q I q => ?_⟩
  obtain ⟨τ, ρ, j, q⟩ := q
  unfold oOr at q
  cases e1 : t ρ with
  | some o => exact h.run pins s σ H Q I ⟨τ, ρ, j, by rw [e1] at q ⊢; exact q⟩
  | none => exact h'.run pins s σ H Q I ⟨τ, ρ, j, by rw [e1] at q; exact q⟩
def vOr (t u : TV) : TV := fun ρ => match t ρ with
  | .bad => u ρ
  | r => r
theorem v_or {t u : TV} (h : PE X e (tV (gX X) c w t)) (h' : PE X e (tV (gX X) c w u)) : PE X e (tV (gX X) c w (vOr t u)) := by
  refine ⟨fun pins s σ H Q I q => ?_⟩
  obtain ⟨τ, ρ, j, q⟩ := q
  unfold vOr at q
  cases e1 : t ρ with
  | bad => exact h'.run pins s σ H Q I ⟨τ, ρ, j, by rw [e1] at q; exact q⟩
  | ok z => exact h.run pins s σ H Q I ⟨τ, ρ, j, by rw [e1] at q ⊢; exact q⟩
  | exc x ρ' => exact h.run pins s σ H Q I ⟨τ, ρ, j, by rw [e1] at q ⊢; exact q⟩
/-- one operation or another one -/
def dOr2 (f g : D → D → Option OO) : D → D → Option OO := fun d e => match f d e with
  | some o => some o
  | none => g d e
theorem o2_or {f g : D → D → Option OO} {t u : TQ} (ρ : Env) : o2 (dOr2 f g) t u ρ = oOr (o2 f t u) (o2 g t u) ρ := by
  simp only [o2, oOr, dOr2]
  cases h : t ρ with
  | none => rfl
  | some s =>
    cases h2 : u ρ with
    | none => rfl
    | some s' => rfl
theorem v2_or {f g : D → D → Option OO} {t u : TV} {ρ : Env} (h : v2 (dOr2 f g) t u ρ ≠ .bad) : (v2 f t u ρ = v2 (dOr2 f g) t u ρ) ∨ v2 g t u ρ = v2 (dOr2 f g) t u ρ := by
  simp only [v2, dOr2]
  cases h1 : t ρ with
  | bad => exact .inl rfl
  | exc x ρ' => exact .inl rfl
  | ok z =>
    obtain ⟨s, ρ1⟩ := z
    simp only [R.th]
    cases h2 : u ρ1 with
    | bad => exact .inl rfl
    | exc x ρ' => exact .inl rfl
    | ok z =>
      obtain ⟨s', ρ2⟩ := z
      simp only
      cases h3 : f s.fr s'.fr with
      | none => exact .inr rfl
      | some o => exact .inl rfl
theorem o_or2 {f g : D → D → Option OO} {t u : TQ} (h : PE X e (tO (gX X) c (o2 f t u))) (h' : PE X e (tO (gX X) c (o2 g t u))) : PE X e (tO (gX X) c (o2 (dOr2 f g) t u)) :=
  PEw (o_or h h') fun σ H Q ⟨τ, ρ, j, q⟩ => ⟨τ, ρ, j, by rw [← o2_or]; exact q⟩
theorem v_or2 {f g : D → D → Option OO} {t u : TV} (h : PE X e (tV (gX X) c w (v2 f t u))) (h' : PE X e (tV (gX X) c w (v2 g t u))) : PE X e (tV (gX X) c w (v2 (dOr2 f g) t u)) := by
  refine ⟨fun pins s σ H Q I q => ?_⟩
  obtain ⟨τ, ρ, j, q⟩ := q
  have hb : v2 (dOr2 f g) t u ρ ≠ .bad := fun z => by rw [z] at q; exact q
  rcases v2_or hb with e1 | e1
  · exact h.run pins s σ H Q I ⟨τ, ρ, j, by rw [e1]; exact q⟩
  · exact h'.run pins s σ H Q I ⟨τ, ρ, j, by rw [e1]; exact q⟩

/-! ### keys of dicts -/
def D.key1 : D → Option Key
  | .int i => some (.inl i)
  | .str x => some (.inr x)
  | _ => none
def D.keys : List D → Option (List Key)
  | [] => some []
  | d :: r => match d.key1, D.keys r with
    | some k, some l => some (k :: l)
    | _, _ => none
/-- a key's kind (a tuple's or not) and parts -/
def D.key : D → Option (Bool × List Key)
  | .tup ds => (D.keys ds).map fun l => (true, l)
  | d => (D.key1 d).map fun k => (false, [k])
def dlook : List (List Key) → List D → List Key → Option D
  | k' :: ks, d :: ds, k => if k' = k then some d else dlook ks ds k
  | _, _, _ => none
theorem F.key1 {g : Gm} {τ : Tg} {H : Hp} {v : V} {d : D} {k : Key} (h : F g τ H v d) (e : d.key1 = some k) : v = kV k := by
  cases h <;> simp [D.key1] at e <;> (subst e; rfl)
theorem Fs.keys {g : Gm} {τ : Tg} {H : Hp} : ∀ {vs : List V} {ds : List D} {l : List Key}, Fs g τ H vs ds → D.keys ds = some l → vs = l.map kV
  | _, _, l, .nil, e => by simp [D.keys] at e; subst e; rfl
  | _, _, l, .cons f r, e => by
    unfold D.keys at e
    split at e
    · rename_i k l' e1 e2
      cases e
      rw [List.map_cons, f.key1 e1, Fs.keys r e2]
    · cases e
theorem look_rel {κ : Type} [DecidableEq κ] {g : Gm} {τ : Tg} {H : Hp} {m : κ → List Key} (hm : ∀ x y, m x = m y → x = y) (k : κ) : ∀ {kvs : List (κ × V)} {ds : List D}, Fs g τ H (kvs.map Prod.snd) ds →
    (valV kvs k = none ∧ dlook (kvs.map fun p => m p.1) ds (m k) = none) ∨ ∃ v d, valV kvs k = some v ∧ dlook (kvs.map fun p => m p.1) ds (m k) = some d ∧ F g τ H v d
  | [], _, .nil => .inl ⟨rfl, rfl⟩
  | p :: kvs, _, .cons f r => by
    by_cases h : p.1 = k
    · refine .inr ⟨_, _, valV_pos h, ?_, f⟩
      simp [dlook, h]
    · have h2 : ¬ m p.1 = m k := fun z => h (hm _ _ z)
      rw [valV_neg h]
      simp only [List.map_cons, dlook, if_neg h2]
      exact look_rel hm k r
/-- what a dict holds at a key -/
def D.get (d k : D) : Option (Option D) := match d, k.key with
  | .dct t ks ds, some (t', k') => if t = t' then some (dlook ks ds k') else none
  | _, _ => none
theorem inj1 : ∀ x y : Key, [x] = [y] → x = y := fun x y h => by cases h; rfl
theorem W.get {g : Gm} {τ : Tg} {H : Hp} {π π' : List Nat} {x y : V} {s s' : S} {o : Option D} (hx : W g τ H π x s) (hy : W g τ H π' y s') (h : D.get s.fr s'.fr = some o) :
    ∃ a, x = .ref a ∧ ((o = none ∧ DGet H a y none) ∨ ∃ v d, o = some d ∧ DGet H a y (some v) ∧ F g τ H v d) := by
  unfold D.get at h
  split at h
  · rename_i t ks ds t' k' e1 e2
    by_cases ht : t = t'
    · rw [if_pos ht] at h
      subst ht
      cases h
      cases t with
      | false =>
        obtain ⟨a, kvs, rfl, h1, rfl, f⟩ := hx.dK_of e1
        refine ⟨a, rfl, ?_⟩
        obtain ⟨k, rfl, ek⟩ : ∃ k, k' = [k] ∧ s'.fr.key1 = some k := by
          unfold D.key at e2
          split at e2
          · rename_i ds' _
            cases e3 : D.keys ds' with
            | none => rw [e3] at e2; cases e2
            | some l => rw [e3] at e2; cases e2
          · cases e3 : s'.fr.key1 with
            | none => rw [e3] at e2; cases e2
            | some k => rw [e3] at e2; cases e2; exact ⟨k, rfl, rfl⟩
        have ey : y = kV k := hy.view.key1 ek
        rcases look_rel (g := g) (τ := τ) (H := H) inj1 k f with ⟨h2, h3⟩ | ⟨v, d, h2, h3, h4⟩
        · exact .inl ⟨h3, by rw [ey, ← h2]; exact DGet.k h1⟩
        · exact .inr ⟨v, d, h3, by rw [ey, ← h2]; exact DGet.k h1, h4⟩
      | true =>
        obtain ⟨a, kvs, rfl, h1, rfl, f⟩ := hx.dT_of e1
        refine ⟨a, rfl, ?_⟩
        obtain ⟨ds', e4, ek⟩ : ∃ ds', s'.fr = .tup ds' ∧ D.keys ds' = some k' := by
          unfold D.key at e2
          split at e2
          · rename_i ds' e5
            cases e3 : D.keys ds' with
            | none => rw [e3] at e2; cases e2
            | some l => rw [e3] at e2; cases e2; exact ⟨ds', e5, e3⟩
          · cases e3 : s'.fr.key1 with
            | none => rw [e3] at e2; cases e2
            | some k => rw [e3] at e2; cases e2
        obtain ⟨b, vs, rfl, h5, _, f5⟩ := hy.tup_of e4
        have ev := f5.keys ek
        rw [ev] at h5
        rcases look_rel (g := g) (τ := τ) (H := H) (m := id) (fun _ _ z => z) k' f with ⟨h2, h3⟩ | ⟨v, d, h2, h3, h4⟩
        · exact .inl ⟨h3, by rw [← h2]; exact DGet.t h1 h5⟩
        · exact .inr ⟨v, d, h3, by rw [← h2]; exact DGet.t h1 h5, h4⟩
    · rw [if_neg ht] at h; cases h
  · cases h

/-! ### in, not in -/
/-- data in a list; a key in a dict; a text in a text; flat data in a tuple -/
def dInL (neg : Bool) : D → D → Option OO := fun d e => match e with
  | .lst ds => if d.eqOk && (D.lst ds).eqOk then some (.v (.bl (neg ^^ ds.any fun z => D.eqv z d))) else none
  | _ => none
theorem any_py (p : PyData → Bool) : ∀ ds : List D, (D.pys ds).any p = ds.any fun d => p d.py
  | [] => rfl
  | d :: r => by simp only [D.pys, List.any_cons, any_py p r]
theorem d_inL : Op2 X (rInD X.K) (dInL false) := fun τ H π π' x y s s' Q hd hx hy q => by
  unfold dInL at q
  split at q
  · rename_i ds e1
    by_cases hk : (s.fr.eqOk && (D.lst ds).eqOk) = true
    · rw [if_pos hk] at q
      rw [Bool.and_eq_true] at hk
      obtain ⟨h1, h2⟩ := hx.view.shaped hk.1
      obtain ⟨h3, h4⟩ := hy.view.shaped (by rw [e1]; exact hk.2)
      rw [e1] at h3 h4
      have h3 : Dp (gX X).K H y (.list (D.pys ds)) := by simpa only [D.py] using h3
      refine ⟨_, D.pys ds, h1, h3, h2, by simpa only [D.py] using h4, ?_⟩
      have := q (.bl (false ^^ ds.any fun z => D.eqv z s.fr)) H (.refl H) (.bl _)
      rw [any_py]
      rw [Bool.false_xor] at this
      exact this
    · rw [if_neg hk] at q; exact q.elim
  · exact q.elim
theorem d_notInL : Op2 X (rNotInD X.K) (dInL true) := fun τ H π π' x y s s' Q hd hx hy q => by
  unfold dInL at q
  split at q
  · rename_i ds e1
    by_cases hk : (s.fr.eqOk && (D.lst ds).eqOk) = true
    · rw [if_pos hk] at q
      rw [Bool.and_eq_true] at hk
      obtain ⟨h1, h2⟩ := hx.view.shaped hk.1
      obtain ⟨h3, h4⟩ := hy.view.shaped (by rw [e1]; exact hk.2)
      rw [e1] at h3 h4
      have h3 : Dp (gX X).K H y (.list (D.pys ds)) := by simpa only [D.py] using h3
      refine ⟨_, D.pys ds, h1, h3, h2, by simpa only [D.py] using h4, ?_⟩
      have := q (.bl (true ^^ ds.any fun z => D.eqv z s.fr)) H (.refl H) (.bl _)
      rw [any_py]
      rw [Bool.true_xor] at this
      exact this
    · rw [if_neg hk] at q; exact q.elim
  · exact q.elim
def D.flat1 : D → Bool
  | .non | .bl _ | .int _ | .str _ => true
  | _ => false
def dInT (neg : Bool) : D → D → Option OO := fun d e => match e with
  | .tup ds => if d.flat1 && ds.all D.flat1 then some (.v (.bl (neg ^^ ds.any fun z => D.eqv z d))) else none
  | _ => none
theorem F.flat1 {g : Gm} {τ : Tg} {H : Hp} {v : V} {d : D} (h : F g τ H v d) (e : d.flat1 = true) : flatV v = true := by
  cases h <;> first | rfl | cases e
theorem F.eqv1 {g : Gm} {τ : Tg} {H : Hp} {v v' : V} {d d' : D} (h : F g τ H v d) (h' : F g τ H v' d') (e : d.flat1 = true) (e' : d'.flat1 = true) : eqV v v' = D.eqv d d' := by
  cases h <;> cases e <;> cases h' <;> cases e' <;> first | rfl | simp [eqV, D.eqv, D.py, PyData.eqv]
theorem Fs.flat1 {g : Gm} {τ : Tg} {H : Hp} : ∀ {vs : List V} {ds : List D}, Fs g τ H vs ds → ds.all D.flat1 = true → vs.all flatV = true
  | _, _, .nil, _ => rfl
  | _, _, .cons f r, e => by
    simp only [List.all_cons, Bool.and_eq_true] at e ⊢
    exact ⟨f.flat1 e.1, Fs.flat1 r e.2⟩
theorem Fs.inV {g : Gm} {τ : Tg} {H : Hp} {x : V} {d : D} (h : F g τ H x d) (e : d.flat1 = true) : ∀ {vs : List V} {ds : List D}, Fs g τ H vs ds → ds.all D.flat1 = true → inV x vs = ds.any fun z => D.eqv z d
  | _, _, .nil, _ => rfl
  | _, _, .cons f r, e' => by
    simp only [List.all_cons, Bool.and_eq_true] at e'
    have ih := Fs.inV h e r e'.2
    unfold L2.inV at ih ⊢
    rw [List.any_cons, List.any_cons, f.eqv1 h e'.1 e, ih]
theorem d_inT : Op2 X (rIn X.K false) (dInT false) := fun τ H π π' x y s s' Q hd hx hy q => by
  unfold dInT at q
  split at q
  · rename_i ds e1
    by_cases hk : (s.fr.flat1 && ds.all D.flat1) = true
    · rw [if_pos hk] at q
      rw [Bool.and_eq_true] at hk
      obtain ⟨a, vs, rfl, h1, t1, f⟩ := hy.tup_of e1
      have fv : F (gX X) (fun _ => none) H (.ref a) (.tup ds) := by have := hy.view; rw [e1] at this; exact this
      cases fv with
      | tup h2 h3 f2 =>
        have q' := q (.bl (false ^^ ds.any fun z => D.eqv z s.fr)) H (.refl H) (.bl _)
        refine ⟨a, _, rfl, .inr (.inl (.inl h2)), hx.view.flat1 hk.1, f2.flat1 hk.2, ?_⟩
        rw [Fs.inV hx.view hk.1 f2 hk.2]
        rw [Bool.false_xor] at q'
        exact q'
    · rw [if_neg hk] at q; exact q.elim
  · exact q.elim
theorem d_notInT : Op2 X (rIn X.K true) (dInT true) := fun τ H π π' x y s s' Q hd hx hy q => by
  unfold dInT at q
  split at q
  · rename_i ds e1
    by_cases hk : (s.fr.flat1 && ds.all D.flat1) = true
    · rw [if_pos hk] at q
      rw [Bool.and_eq_true] at hk
      obtain ⟨a, vs, rfl, h1, t1, f⟩ := hy.tup_of e1
      have fv : F (gX X) (fun _ => none) H (.ref a) (.tup ds) := by have := hy.view; rw [e1] at this; exact this
      cases fv with
      | tup h2 h3 f2 =>
        have q' := q (.bl (true ^^ ds.any fun z => D.eqv z s.fr)) H (.refl H) (.bl _)
        refine ⟨a, _, rfl, .inr (.inl (.inl h2)), hx.view.flat1 hk.1, f2.flat1 hk.2, ?_⟩
        rw [Fs.inV hx.view hk.1 f2 hk.2]
        rw [Bool.true_xor] at q'
        exact q'
    · rw [if_neg hk] at q; exact q.elim
  · exact q.elim
def strIn (x y : Str) : Bool := !(Builtin.Str.occurrences y x 0 y.length 1).isEmpty
def dInS (neg : Bool) : D → D → Option OO
  | .str x, .str y => some (.v (.bl (neg ^^ strIn x y)))
  | _, _ => none
theorem d_inS : Op2 X (rS2 strIn) (dInS false) := fun τ H π π' x y s s' Q hd hx hy q => by
  unfold dInS at q
  split at q
  · rename_i x y e1 e2
    exact ⟨x, y, (hx.str_of e1).1, (hy.str_of e2).1, by simpa only [Bool.false_xor] using q _ H (.refl H) (.bl _)⟩
  · exact q.elim
theorem d_notInS : Op2 X (rS2 fun x y => !strIn x y) (dInS true) := fun τ H π π' x y s s' Q hd hx hy q => by
  unfold dInS at q
  split at q
  · rename_i x y e1 e2
    exact ⟨x, y, (hx.str_of e1).1, (hy.str_of e2).1, by simpa only [Bool.true_xor] using q _ H (.refl H) (.bl _)⟩
  · exact q.elim
def dInK (neg : Bool) : D → D → Option OO := fun k d => (D.get d k).map fun o => .v (.bl (neg ^^ o.isSome))
abbrev rInK (neg : Bool) : R2 := fun y x H Q => ∃ a o, x = .ref a ∧ DGet H a y o ∧ Q (.bl (neg ^^ o.isSome)) H
theorem d_inK {neg : Bool} : Op2 X (rInK neg) (dInK neg) := fun τ H π π' x y s s' Q hd hx hy q => by
  unfold dInK at q
  cases e1 : D.get s'.fr s.fr with
  | none => rw [e1] at q; exact q.elim
  | some o =>
    rw [e1] at q
    obtain ⟨a, rfl, h⟩ := hy.get hx e1
    rcases h with ⟨rfl, h⟩ | ⟨v, d, rfl, h, _⟩
    · exact ⟨a, none, rfl, h, q _ H (.refl H) (.bl _)⟩
    · exact ⟨a, some v, rfl, h, q _ H (.refl H) (.bl _)⟩
def dIn (neg : Bool) : D → D → Option OO := dOr2 (dInL neg) (dOr2 (dInT neg) (dOr2 (dInS neg) (dInK neg)))
section
variable {ta tb : TQ} {va vb : TV} (hu : X.A.units + 65 < cLine)
theorem hu1 (hu : X.A.units + 65 < cLine) : X.A.units + 1 < cLine := by omega
theorem o_in (ha : PE X a (tQ (gX X) c ta)) (hb : PE X b (tQ (gX X) c tb)) (hu : X.A.units + 65 < cLine) (hm : behindInMarks .In b = false := by rfl) : PE X (.Compare a [.In] [b] pos) (tO (gX X) c (o2 (dIn false) ta tb)) :=
  o_or2 (o_cmp (op_inD hu) d_inL ha hb hm) (o_or2 (o_cmp op_in_seq d_inT ha hb hm) (o_or2 (o_cmp op_in_str d_inS ha hb hm) (o_2 (r := rInK false) (PEw (pe_cmp (pc_din (hu1 hu) ha hb) hm) fun σ H Q z => by
    simpa only [tDIn, rInK, Bool.false_xor] using z) d_inK)))
theorem o_notIn (ha : PE X a (tQ (gX X) c ta)) (hb : PE X b (tQ (gX X) c tb)) (hu : X.A.units + 65 < cLine) (hm : behindInMarks .NotIn b = false := by rfl) : PE X (.Compare a [.NotIn] [b] pos) (tO (gX X) c (o2 (dIn true) ta tb)) :=
  o_or2 (o_cmp (op_notInD hu) d_notInL ha hb hm) (o_or2 (o_cmp op_notIn_seq d_notInT ha hb hm) (o_or2 (o_cmp op_notin_str d_notInS ha hb hm) (o_2 (r := rInK true) (PEw (pe_cmp (pc_dnotin (hu1 hu) ha hb) hm) fun σ H Q z => by
    simpa only [tDNotIn, rInK, Bool.true_xor] using z) d_inK)))
theorem v_in (ha : PE X a (tV (gX X) c w va)) (hb : PE X b (tV (gX X) c w vb)) (hu : X.A.units + 65 < cLine) (hm : behindInMarks .In b = false := by rfl) : PE X (.Compare a [.In] [b] pos) (tV (gX X) c w (v2 (dIn false) va vb)) :=
  v_or2 (v_cmp (op_inD hu) d_inL ha hb hm) (v_or2 (v_cmp op_in_seq d_inT ha hb hm) (v_or2 (v_cmp op_in_str d_inS ha hb hm) (v_2 (r := rInK false) (PEw (pe_cmp (pc_din (hu1 hu) ha hb) hm) fun σ H Q z => by
    simpa only [tDIn, rInK, Bool.false_xor] using z) d_inK)))
theorem v_notIn (ha : PE X a (tV (gX X) c w va)) (hb : PE X b (tV (gX X) c w vb)) (hu : X.A.units + 65 < cLine) (hm : behindInMarks .NotIn b = false := by rfl) : PE X (.Compare a [.NotIn] [b] pos) (tV (gX X) c w (v2 (dIn true) va vb)) :=
  v_or2 (v_cmp (op_notInD hu) d_notInL ha hb hm) (v_or2 (v_cmp op_notIn_seq d_notInT ha hb hm) (v_or2 (v_cmp op_notin_str d_notInS ha hb hm) (v_2 (r := rInK true) (PEw (pe_cmp (pc_dnotin (hu1 hu) ha hb) hm) fun σ H Q z => by
    simpa only [tDNotIn, rInK, Bool.true_xor] using z) d_inK)))
end

/-! ### is -/
def D.isNon : D → Bool
  | .non => true
  | _ => false
def dIsN (neg : Bool) : D → Option OO := fun d => some (.v (.bl (neg ^^ d.isNon)))
theorem F.isNon {g : Gm} {τ : Tg} {H : Hp} {v : V} {d : D} (h : F g τ H v d) : decide (v = .non) = d.isNon := by
  cases h <;> simp [D.isNon]
theorem d_isN : Op1 X (fun x H Q => Q (.bl (decide (x = .non))) H) (dIsN false) := fun τ H π x s Q hd hx q => by
  have := q _ H (.refl H) (.bl _)
  rw [Bool.false_xor, ← hx.view.isNon] at this
  exact this
theorem d_notN : Op1 X (fun x H Q => Q (.bl (!decide (x = .non))) H) (dIsN true) := fun τ H π x s Q hd hx q => by
  have := q _ H (.refl H) (.bl _)
  rw [Bool.true_xor, ← hx.view.isNon] at this
  exact this
theorem o_isN {ta : TQ} {j pos'} (ha : PE X a (tQ (gX X) c ta)) : PE X (.Compare a [.Is] [.Constant .none j pos'] pos) (tO (gX X) c (o1 (dIsN false) ta)) := o_1 (pe_cmp (pc_isN ha) rfl) d_isN
theorem o_notN {ta : TQ} {j pos'} (ha : PE X a (tQ (gX X) c ta)) : PE X (.Compare a [.IsNot] [.Constant .none j pos'] pos) (tO (gX X) c (o1 (dIsN true) ta)) := o_1 (pe_cmp (pc_notN ha) rfl) d_notN
theorem v_isN {ta : TV} {j pos'} (ha : PE X a (tV (gX X) c w ta)) : PE X (.Compare a [.Is] [.Constant .none j pos'] pos) (tV (gX X) c w (v1 (dIsN false) ta)) := v_1 (pe_cmp (pc_isN ha) rfl) d_isN
theorem v_notN {ta : TV} {j pos'} (ha : PE X a (tV (gX X) c w ta)) : PE X (.Compare a [.IsNot] [.Constant .none j pos'] pos) (tV (gX X) c w (v1 (dIsN true) ta)) := v_1 (pe_cmp (pc_notN ha) rfl) d_notN
theorem b_isN {ta : TQ} {j pos'} (ha : PE X a (tQ (gX X) c ta)) : PT X (.Compare a [.Is] [.Constant .none j pos'] pos) (tTV (gX X) c w (bC (oV (o1 (dIsN false) ta)))) := b_c (pt_cmp (pc_isN ha) rfl) fun σ H Q z => io_1 d_isN σ H Q (iv_o σ H Q z)
theorem b_notN {ta : TQ} {j pos'} (ha : PE X a (tQ (gX X) c ta)) : PT X (.Compare a [.IsNot] [.Constant .none j pos'] pos) (tTV (gX X) c w (bC (oV (o1 (dIsN true) ta)))) := b_c (pt_cmp (pc_notN ha) rfl) fun σ H Q z => io_1 d_notN σ H Q (iv_o σ H Q z)
theorem b_visN {ta : TV} {j pos'} (ha : PE X a (tV (gX X) c w ta)) : PT X (.Compare a [.Is] [.Constant .none j pos'] pos) (tTV (gX X) c w (bC (v1 (dIsN false) ta))) := b_c (pt_cmp (pc_isN ha) rfl) fun σ H Q z => iv_1 d_isN σ H Q z
theorem b_vnotN {ta : TV} {j pos'} (ha : PE X a (tV (gX X) c w ta)) : PT X (.Compare a [.IsNot] [.Constant .none j pos'] pos) (tTV (gX X) c w (bC (v1 (dIsN true) ta))) := b_c (pt_cmp (pc_notN ha) rfl) fun σ H Q z => iv_1 d_notN σ H Q z
/-- a is True, where a is a bool -/
def dIsB (neg : Bool) : D → D → Option OO
  | .bl x, .bl y => some (.v (.bl (neg ^^ (x == y))))
  | _, _ => none
theorem d_isB : Op2 X rIsB (dIsB false) := fun τ H π π' x y s s' Q hd hx hy q => by
  unfold dIsB at q
  split at q
  · rename_i x y e1 e2
    refine ⟨x, y, hx.bl_of e1, hy.bl_of e2, ?_⟩
    have := q _ H (.refl H) (.bl _)
    simpa only [Bool.false_xor, Bool.beq_eq_decide_eq] using this
  · exact q.elim
theorem d_notB : Op2 X rNotB (dIsB true) := fun τ H π π' x y s s' Q hd hx hy q => by
  unfold dIsB at q
  split at q
  · rename_i x y e1 e2
    refine ⟨x, y, hx.bl_of e1, hy.bl_of e2, ?_⟩
    have := q _ H (.refl H) (.bl _)
    simpa only [Bool.true_xor, Bool.beq_eq_decide_eq] using this
  · exact q.elim
end
end VS
namespace VS
open PySem PySem.Spec PyProof.Rows L2

section
variable {X : Cx} {c : JC} {w : WX} {e a b : Expr} {es : List Expr} {pos : Pos}

/-! ### subscripts -/
def dIx : D → D → Option OO
  | .lst ds, .int i => (atI ds i).map .v
  | .tup ds, .int i => (atI ds i).map .v
  | .str x, .int i => if x.length ≤ sizeLine then (atI x.cps.toList i).map fun c => .v (.str ⟨#[c]⟩) else none
  | .scr ns, .int i => (atI ns i).map fun n => .v (.int n)
  | _, _ => none
def dGetX (d k : D) : Option OO := match D.get d k with
  | some (some v) => some (.v v)
  | _ => none
theorem Fs.atI {g : Gm} {τ : Tg} {H : Hp} {vs : List V} {ds : List D} {i : Int} {d : D} (f : Fs g τ H vs ds) (h : L2.atI ds i = some d) : ∃ v, L2.atI vs i = some v ∧ F g τ H v d := by
  unfold L2.atI at h ⊢
  rw [f.len]
  cases e : ixN ds.length i with
  | none => rw [e] at h; cases h
  | some j => rw [e] at h; exact f.get h
theorem strOk_at {x : Str} {n : Nat} (h : PyData.strOk x = true) (hn : n ∈ x.cps.toList) : PyData.strOk ⟨#[n]⟩ = true := by
  unfold PyData.strOk at *
  rw [Array.all_eq_true_iff_forall_mem] at h
  have := h n (by simpa using hn)
  simp at this ⊢
  exact this
theorem atI_mem {α : Type} {xs : List α} {i : Int} {y : α} (h : L2.atI xs i = some y) : y ∈ xs := by
  unfold L2.atI at h
  cases e : ixN xs.length i with
  | none => rw [e] at h; cases h
  | some j => rw [e] at h; exact List.mem_of_getElem? h
theorem d_ix : Op2 X (rIx X.K) dIx := fun τ H π π' x y s s' Q hd hx hy q => by
  unfold dIx at q
  split at q
  · rename_i ds i e1 e2
    cases e3 : L2.atI ds i with
    | none => rw [e3] at q; exact q.elim
    | some d =>
      rw [e3] at q
      obtain ⟨p, vs, rfl, h1, f⟩ := hx.lst_of e1
      obtain ⟨v, h2, f2⟩ := f.atI e3
      exact .inl ⟨p, vs, i, v, rfl, hy.int_of e2, .inl (.inl h1), h2, q v H (.refl H) f2⟩
  · rename_i ds i e1 e2
    cases e3 : L2.atI ds i with
    | none => rw [e3] at q; exact q.elim
    | some d =>
      rw [e3] at q
      obtain ⟨p, vs, rfl, h1, _, f⟩ := hx.tup_of e1
      obtain ⟨v, h2, f2⟩ := f.atI e3
      exact .inr (.inl ⟨p, vs, i, v, rfl, hy.int_of e2, .inl (.inl h1), h2, q v H (.refl H) f2⟩)
  · rename_i z i e1 e2
    by_cases hl : z.length ≤ sizeLine
    · rw [if_pos hl] at q
      cases e3 : L2.atI z.cps.toList i with
      | none => rw [e3] at q; exact q.elim
      | some n =>
        rw [e3] at q
        obtain ⟨h1, h2⟩ := hx.str_of e1
        exact .inr (.inr ⟨z, i, n, h1, hy.int_of e2, hl, e3, q _ H (.refl H) (.str _ (strOk_at h2 (atI_mem e3)))⟩)
    · rw [if_neg hl] at q; exact q.elim
  · rename_i ns i e1 e2
    cases e3 : L2.atI ns i with
    | none => rw [e3] at q; exact q.elim
    | some n =>
      rw [e3] at q
      obtain ⟨p, rfl, h1⟩ := hx.scr_of e1
      have h3 : L2.atI (ns.map V.int) i = some (.int n) := by
        unfold L2.atI at e3 ⊢
        rw [List.length_map]
        cases e : ixN ns.length i with
        | none => rw [e] at e3; cases e3
        | some j => rw [e] at e3; exact (by rw [Option.bind, List.getElem?_map, show ns[j]? = some n from e3]; rfl)
      exact .inl ⟨p, _, i, _, rfl, hy.int_of e2, h1, h3, q _ H (.refl H) (.int n)⟩
  · exact q.elim
theorem d_getX : Op2 X (fun x y H Q => ∃ a v, x = .ref a ∧ DGet H a y (some v) ∧ Q v H) dGetX := fun τ H π π' x y s s' Q hd hx hy q => by
  unfold dGetX at q
  split at q
  · rename_i v e1
    obtain ⟨p, rfl, h⟩ := hx.get hy e1
    rcases h with ⟨h, _⟩ | ⟨u, d, h, h2, f⟩
    · cases h
    · cases h
      exact ⟨p, u, rfl, h2, q u H (.refl H) f⟩
  · exact q.elim
def dSub1 : D → D → Option OO := dOr2 dIx dGetX
theorem o_ix {ta tb : TQ} (ha : PE X a (tQ (gX X) c ta)) (hb : PE X b (tQ (gX X) c tb)) (hu : X.A.units + 65 < cLine) (hs : PlainIx b := by exact fun _ _ => rfl) : PE X (.Subscript a b pos) (tO (gX X) c (o2 dSub1 ta tb)) :=
  o_or2 (o_2 (pe_ix ix_seq ha hb hs) d_ix) (o_2 (pe_dget (hu1 hu) ha hb hs) d_getX)
theorem v_ix {ta tb : TV} (ha : PE X a (tV (gX X) c w ta)) (hb : PE X b (tV (gX X) c w tb)) (hu : X.A.units + 65 < cLine) (hs : PlainIx b := by exact fun _ _ => rfl) : PE X (.Subscript a b pos) (tV (gX X) c w (v2 dSub1 ta tb)) :=
  v_or2 (v_2 (pe_ix ix_seq ha hb hs) d_ix) (v_2 (pe_dget (hu1 hu) ha hb hs) d_getX)

/-! ### slices -/
def tPQ (g : Gm) (c : JC) (t : Env → Option (Option Int)) : TO := fun σ H Q => ∃ τ ρ r, J g c τ σ H ρ ∧ t ρ = some r ∧ ∀ H', Same H H' → J g c τ σ H' ρ → Q r H'
theorem POw {o : Option Expr} {t t' : TO} (h : PO X o t) (k : ∀ σ H Q, t' σ H Q → t σ H Q) : PO X o t' := by
  have hr := h.run
  exact ⟨fun pins s σ H Q I q => hr pins s σ H Q I (k σ H Q q)⟩
def pNo : Env → Option (Option Int) := fun _ => some none
def pSo (t : TQ) : Env → Option (Option Int) := fun ρ => (t ρ).bind fun s => s.int?.map some
theorem p_no : PO X none (tPQ (gX X) c pNo) := POw po_none fun σ H Q ⟨τ, ρ, r, j, e, q⟩ => by
  cases e
  exact q H (.refl H) j
theorem p_so {t : TQ} (h : PE X e (tQ (gX X) c t)) : PO X (some e) (tPQ (gX X) c (pSo t)) := POw (po_some h) fun σ H Q ⟨τ, ρ, r, j, e, q⟩ => by
  unfold pSo at e
  cases e1 : t ρ with
  | none => rw [e1] at e; cases e
  | some s =>
    rw [e1] at e
    dsimp only [Option.bind] at e
    cases e2 : s.int? with
    | none => rw [e2] at e; cases e
    | some i =>
      rw [e2] at e
      cases e
      exact ⟨τ, ρ, s, j, e1, fun v H' π sm j' hw => ⟨i, hw.int e2, q H' sm j'⟩⟩
def cutL {α : Type} (xs : List α) (lo hi : Option Int) : List α := (xs.drop (HT.sIx xs.length 0 lo)).take (HT.sIx xs.length xs.length hi - HT.sIx xs.length 0 lo)
def dCut (d : D) (lo hi : Option Int) : Option OO := match d with
  | .lst ds => some (.n (.lst (cutL ds lo hi)))
  | .tup ds => some (.v (.tup (cutL ds lo hi)))
  | .str x => if x.length ≤ sizeLine then some (.v (.str (cutS x lo hi))) else none
  | _ => none
def oCut (t : TQ) (l h : Env → Option (Option Int)) : Env → Option OO := fun ρ => (t ρ).bind fun s => (l ρ).bind fun lo => (h ρ).bind fun hi => dCut s.fr lo hi
theorem Fs.cut {g : Gm} {τ : Tg} {H : Hp} {vs : List V} {ds : List D} (f : Fs g τ H vs ds) (lo hi : Option Int) : Fs g τ H (cutV vs lo hi) (cutL ds lo hi) := by
  unfold cutV cutL
  rw [f.len]
  exact (f.drop _).take _
theorem strOk_sub {x y : Str} (h : PyData.strOk x = true) (hs : ∀ n ∈ y.cps.toList, n ∈ x.cps.toList) : PyData.strOk y = true := by
  unfold PyData.strOk at *
  rw [Array.all_eq_true_iff_forall_mem] at h ⊢
  exact fun n hn => h n (by simpa using hs n (by simpa using hn))
abbrev rSlAll (X : Cx) : V → Option Int → Option Int → Hp → VK → Prop := fun x lo hi H Q => rSlL X.K x lo hi H Q ∨ (rSlA X.K x lo hi H Q ∨ rSlS x lo hi H Q)
theorem cutL_all {α : Type} {xs : List α} {lo hi : Option Int} (h : HT.sIx xs.length 0 lo = 0 ∧ HT.sIx xs.length xs.length hi = xs.length) : cutL xs lo hi = xs := by
  unfold cutL
  rw [h.1, h.2]
  simp
theorem o_cut {t : TQ} {lo hi : Option Expr} {tl th : Env → Option (Option Int)} {p2 : Pos} (he : PE X e (tQ (gX X) c t)) (hl : PO X lo (tPQ (gX X) c tl)) (hh : PO X hi (tPQ (gX X) c th)) : PE X (.Subscript e (.Slice lo hi none p2) pos) (tO (gX X) c (oCut t tl th)) :=
  PEw (pe_slice (r := rSlAll X) (SlR.or sl_list (SlR.or sl_tupA sl_str)) he hl hh) fun σ H Q ⟨τ, ρ, j, q⟩ => by
    unfold oCut at q
    cases e1 : t ρ with
    | none => rw [e1] at q; exact q.elim
    | some s =>
      rw [e1] at q
      dsimp only [Option.bind] at q
      cases e2 : tl ρ with
      | none => rw [e2] at q; exact q.elim
      | some l =>
        rw [e2] at q
        dsimp only at q
        cases e3 : th ρ with
        | none => rw [e3] at q; exact q.elim
        | some h =>
          rw [e3] at q
          dsimp only at q
          refine ⟨τ, ρ, s, j, e1, fun v H1 π s1 j1 hw => ⟨τ, ρ, l, j1, e2, fun H2 s2 j2 => ⟨τ, ρ, h, j2, e3, fun H3 s3 j3 => ?_⟩⟩⟩
          have hw := (hw.same s2).same s3
          have s13 := (s1.trans s2).trans s3
          unfold dCut at q
          split at q
          · rename_i o d e4
            split at e4
            · cases e4
            · rename_i ds e5
              cases e4
              obtain ⟨p, vs, rfl, h1, h2, f⟩ := hw.tup_of e5
              refine .inr (.inl ⟨p, vs, rfl, .inl (.inl h1), fun z => ?_, fun z p' hn => ?_⟩)
              · rw [f.len] at z
                rw [cutL_all z] at q
                exact q _ H3 s13 j3 (.tup h1 h2 f)
              · exact q _ _ (s13.trans (same_new hn)) (j3.same (same_new hn)) (F.tupN (dom0 j3) hn (f.cut _ _))
            · rename_i x e5
              by_cases hl : x.length ≤ sizeLine
              · rw [if_pos hl] at e4
                cases e4
                obtain ⟨h1, h2⟩ := hw.str_of e5
                refine .inr (.inr ⟨x, h1, hl, q _ H3 s13 j3 (.str _ (strOk_sub h2 fun n hn => ?_))⟩)
                unfold cutS at hn
                exact List.mem_of_mem_drop (List.mem_of_mem_take (by simpa using hn))
              · rw [if_neg hl] at e4; cases e4
            · cases e4
          · rename_i o s' e4
            split at e4
            · rename_i ds e5
              cases e4
              obtain ⟨p, vs, rfl, h1, f⟩ := hw.lst_of e5
              refine .inl ⟨p, vs, rfl, .inl (.inl h1), fun p' hn => ?_⟩
              exact q _ _ (j3.same (same_new hn)) ⟨p', H3, rfl, s13, hn, same_new hn, _, upd_same, f.cut _ _⟩
            · cases e4
            · split at e4 <;> cases e4
            · cases e4
          · exact q.elim

/-! ### displays -/
/-- quiet items that nobody changes -/
def tAQ (g : Gm) (c : JC) (t : Env → Option (List D)) : TA := fun σ H Q => ∃ τ ρ ds, J g c τ σ H ρ ∧ t ρ = some ds ∧ ∀ vs H', Same H H' → J g c τ σ H' ρ → Fs g τ H' vs ds → Q vs H'
def qNo : Env → Option (List D) := fun _ => some []
def qAnd (t : TQ) (u : Env → Option (List D)) : Env → Option (List D) := fun ρ => match t ρ with
  | some (.fz d) => (u ρ).map (d :: ·)
  | _ => none
theorem aq_no : PA X [] (tAQ (gX X) c qNo) := PAw pa_nil fun σ H Q ⟨τ, ρ, ds, j, e, q⟩ => by
  cases e
  exact q [] H (.refl H) j .nil
theorem aq_and {t : TQ} {u : Env → Option (List D)} (h1 : PE X e (tQ (gX X) c t)) (h2 : PA X es (tAQ (gX X) c u)) (hs : starEach (e :: es) X.env = (false, eval e X.env) :: starEach es X.env := by rfl) : PA X (e :: es) (tAQ (gX X) c (qAnd t u)) := PAw (pa_cons h1 h2 hs) fun σ H Q ⟨τ, ρ, ds, j, e, q⟩ => by
  unfold qAnd at e
  split at e
  · rename_i d e1
    cases e2 : u ρ with
    | none => rw [e2] at e; cases e
    | some l =>
      rw [e2] at e
      cases e
      exact ⟨τ, ρ, _, j, e1, fun v H1 π s1 j1 hw => ⟨τ, ρ, l, j1, e2, fun vs H2 s2 j2 f => q (v :: vs) H2 (s1.trans s2) j2 (.cons (hw.of_fz.same s2) f)⟩⟩
  · cases e
def oLst (u : Env → Option (List D)) : Env → Option OO := fun ρ => (u ρ).bind fun ds => if ds.length ≤ sizeLine then some (.n (.lst ds)) else none
def oTup (u : Env → Option (List D)) : Env → Option OO := fun ρ => (u ρ).bind fun ds => if ds.length ≤ sizeLine then some (.v (.tup ds)) else none
theorem o_lst {u : Env → Option (List D)} (h : PA X es (tAQ (gX X) c u)) : PE X (.List es pos) (tO (gX X) c (oLst u)) := PEw (pe_lst h) fun σ H Q ⟨τ, ρ, j, q⟩ => by
  unfold oLst at q
  cases e1 : u ρ with
  | none => rw [e1] at q; exact q.elim
  | some ds =>
    rw [e1] at q
    dsimp only [Option.bind] at q
    by_cases hl : ds.length ≤ sizeLine
    · rw [if_pos hl] at q
      exact ⟨τ, ρ, ds, j, e1, fun vs H1 s1 j1 f => ⟨by rw [f.len]; exact hl, fun p hn => q _ _ (j1.same (same_new hn)) ⟨p, H1, rfl, s1, hn, same_new hn, vs, upd_same, f⟩⟩⟩
    · rw [if_neg hl] at q; exact q.elim
theorem o_tup {u : Env → Option (List D)} {x1} (h : PA X es (tAQ (gX X) c u)) : PE X (.Tuple es x1 pos) (tO (gX X) c (oTup u)) := PEw (pe_tup h) fun σ H Q ⟨τ, ρ, j, q⟩ => by
  unfold oTup at q
  cases e1 : u ρ with
  | none => rw [e1] at q; exact q.elim
  | some ds =>
    rw [e1] at q
    dsimp only [Option.bind] at q
    by_cases hl : ds.length ≤ sizeLine
    · rw [if_pos hl] at q
      exact ⟨τ, ρ, ds, j, e1, fun vs H1 s1 j1 f => ⟨by rw [f.len]; exact hl, fun p hn => q _ _ (s1.trans (same_new hn)) (j1.same (same_new hn)) (F.tupN (dom0 j1) hn f)⟩⟩
    · rw [if_neg hl] at q; exact q.elim
/-- .. that are not quiet -/
def allFz : List AV → Option (List D)
  | [] => some []
  | .fz d :: r => (allFz r).map (d :: ·)
  | .sl _ :: _ => none
theorem allFz_ok {g : Gm} {τ : Tg} {σ : L2.St} {H : Hp} : ∀ {as : List AV} {ds : List D} {vs : List V}, allFz as = some ds → ARs g τ σ H vs as → Fs g τ H vs ds
  | [], ds, vs, e, h => by
    cases e
    have : vs = [] := List.length_eq_zero_iff.mp h.1
    rw [this]; exact .nil
  | .fz d :: r, ds, vs, e, h => by
    unfold allFz at e
    cases e2 : allFz r with
    | none => rw [e2] at e; cases e
    | some l =>
      rw [e2] at e
      cases e
      cases vs with
      | nil => have := h.1; simp at this
      | cons v vs =>
        obtain ⟨v', h1, h2⟩ := h.2 0 (.fz d) rfl
        have e3 : v = v' := by simpa using h1
        rw [← e3] at h2
        exact .cons h2 (allFz_ok e2 ⟨by simpa using h.1, fun i a ea => by simpa using h.2 (i + 1) a (by simpa using ea)⟩)
def vLst (u : TAv) : TV := fun ρ => (u ρ).th fun as ρ1 => match allFz as with
  | some ds => if ds.length ≤ sizeLine then .ok (.lst ds, ρ1) else .bad
  | none => .bad
def vTup (u : TAv) : TV := fun ρ => (u ρ).th fun as ρ1 => match allFz as with
  | some ds => if ds.length ≤ sizeLine then .ok (.fz (.tup ds), ρ1) else .bad
  | none => .bad
theorem v_lst {u : TAv} (h : PA X es (tA (gX X) c w u)) : PE X (.List es pos) (tV (gX X) c w (vLst u)) := PEw (pe_lst h) fun σ H Q ⟨τ, ρ, j, q⟩ => by
  refine ⟨τ, ρ, j, ?_⟩
  unfold vLst at q
  cases e1 : u ρ with
  | bad => rw [e1] at q; exact q
  | exc x ρ' => rw [e1] at q; exact q
  | ok z =>
    obtain ⟨as, ρ1⟩ := z
    rw [e1] at q
    dsimp only [R.th] at q
    intro vs H1 τ1 ex1 j1 har
    cases e2 : allFz as with
    | none => rw [e2] at q; exact q.elim
    | some ds =>
      rw [e2] at q
      dsimp only at q
      have f := allFz_ok e2 har
      by_cases hl : ds.length ≤ sizeLine
      · rw [if_pos hl] at q
        refine ⟨by rw [f.len]; exact hl, fun p hn => ?_⟩
        obtain ⟨τ2, h1, h2, h3⟩ := j1.new (Nw.lst (K := H1) hn f)
        exact q _ _ τ2 (ex1.trans h1) h2 h3
      · rw [if_neg hl] at q; exact q.elim
theorem v_tup {u : TAv} {x1} (h : PA X es (tA (gX X) c w u)) : PE X (.Tuple es x1 pos) (tV (gX X) c w (vTup u)) := PEw (pe_tup h) fun σ H Q ⟨τ, ρ, j, q⟩ => by
  refine ⟨τ, ρ, j, ?_⟩
  unfold vTup at q
  cases e1 : u ρ with
  | bad => rw [e1] at q; exact q
  | exc x ρ' => rw [e1] at q; exact q
  | ok z =>
    obtain ⟨as, ρ1⟩ := z
    rw [e1] at q
    dsimp only [R.th] at q
    intro vs H1 τ1 ex1 j1 har
    cases e2 : allFz as with
    | none => rw [e2] at q; exact q.elim
    | some ds =>
      rw [e2] at q
      dsimp only at q
      have f := allFz_ok e2 har
      by_cases hl : ds.length ≤ sizeLine
      · rw [if_pos hl] at q
        exact ⟨by rw [f.len]; exact hl, fun p hn => q _ _ τ1 (ex1.trans (.same (same_new hn))) (j1.same (same_new hn)) (.fz (F.tupN (dom0 j1) hn f))⟩
      · rw [if_neg hl] at q; exact q.elim

/-! ### and, or, not, if as values -/
def vAnd (a b : TV) : TV := fun ρ => (a ρ).th fun s ρ1 => match s.bl? with
  | some true => b ρ1
  | some false => .ok (.fz (.bl false), ρ1)
  | none => .bad
def vOrB (a b : TV) : TV := fun ρ => (a ρ).th fun s ρ1 => match s.bl? with
  | some false => b ρ1
  | some true => .ok (.fz (.bl true), ρ1)
  | none => .bad
theorem tV_ext {g : Gm} {k : TV} {σ : L2.St} {H H1 : Hp} {Q : VK} {τ τ1 : Tg} {ρ1 : Env} (j : J g c τ1 σ H1 ρ1) (e : Ext τ H τ1 H1) (h : match k ρ1 with
  | .ok (s, ρ') => ∀ v H' τ', Ext τ H τ' H' → J g c τ' σ H' ρ' → W g τ' H' [0] v s → Q v H'
  | .exc x ρ' => ∀ cls d H' τ', Ext τ H τ' H' → J g c τ' σ H' ρ' → XR g τ' H' x cls d → w cls d σ H'
  | .bad => False) : tV g c w k σ H1 Q := by
  refine ⟨τ1, ρ1, j, ?_⟩
  cases e1 : k ρ1 with
  | bad => rw [e1] at h; exact h
  | exc x ρ' => rw [e1] at h; exact fun cls d H' τ' a b => h cls d H' τ' (e.trans a) b
  | ok z =>
    obtain ⟨s, ρ'⟩ := z
    rw [e1] at h
    exact fun v H' τ' a b => h v H' τ' (e.trans a) b
theorem v_one {op} {t : TV} (h : PE X e (tV (gX X) c w t)) : PE X (.BoolOp op [e] pos) (tV (gX X) c w t) := pe_one h
theorem v_and {rest : List Expr} {ta tb : TV} (ha : PE X a (tV (gX X) c w ta)) (hb : PE X (.BoolOp .And (b :: rest) pos) (tV (gX X) c w tb)) : PE X (.BoolOp .And (a :: b :: rest) pos) (tV (gX X) c w (vAnd ta tb)) := PEw (pe_and ha hb) fun σ H Q ⟨τ, ρ, j, q⟩ => by
  refine ⟨τ, ρ, j, ?_⟩
  unfold vAnd at q
  cases e1 : ta ρ with
  | bad => rw [e1] at q; exact q
  | exc x ρ' => rw [e1] at q; exact q
  | ok z =>
    obtain ⟨s, ρ1⟩ := z
    rw [e1] at q
    dsimp only [R.th] at q
    intro v H' τ' h1 h2 h3
    cases e2 : s.bl? with
    | none => rw [e2] at q; exact q.elim
    | some k =>
      rw [e2] at q
      refine ⟨k, h3.bl e2, ?_⟩
      cases k with
      | true => exact tV_ext h2 h1 q
      | false => exact q _ _ τ' h1 h2 (.fz (.bl false))
theorem v_orB {rest : List Expr} {ta tb : TV} (ha : PE X a (tV (gX X) c w ta)) (hb : PE X (.BoolOp .Or (b :: rest) pos) (tV (gX X) c w tb)) : PE X (.BoolOp .Or (a :: b :: rest) pos) (tV (gX X) c w (vOrB ta tb)) := PEw (pe_or ha hb) fun σ H Q ⟨τ, ρ, j, q⟩ => by
  refine ⟨τ, ρ, j, ?_⟩
  unfold vOrB at q
  cases e1 : ta ρ with
  | bad => rw [e1] at q; exact q
  | exc x ρ' => rw [e1] at q; exact q
  | ok z =>
    obtain ⟨s, ρ1⟩ := z
    rw [e1] at q
    dsimp only [R.th] at q
    intro v H' τ' h1 h2 h3
    cases e2 : s.bl? with
    | none => rw [e2] at q; exact q.elim
    | some k =>
      rw [e2] at q
      refine ⟨k, h3.bl e2, ?_⟩
      cases k with
      | false => exact tV_ext h2 h1 q
      | true => exact q _ _ τ' h1 h2 (.fz (.bl true))
def vIf (k : TB) (a b : TV) : TV := fun ρ => (k ρ).th fun x ρ1 => if x then a ρ1 else b ρ1
theorem v_if {cnd : Expr} {k : TB} {ta tb : TV} (hc : PT X cnd (tTV (gX X) c w k)) (ha : PE X a (tV (gX X) c w ta)) (hb : PE X b (tV (gX X) c w tb)) : PE X (.IfExp cnd a b pos) (tV (gX X) c w (vIf k ta tb)) := PEw (pe_ifExp hc ha hb) fun σ H Q ⟨τ, ρ, j, q⟩ => by
  refine ⟨τ, ρ, j, ?_⟩
  unfold vIf at q
  cases e1 : k ρ with
  | bad => rw [e1] at q; exact q
  | exc x ρ' => rw [e1] at q; exact q
  | ok z =>
    obtain ⟨x, ρ1⟩ := z
    rw [e1] at q
    intro H' τ' h1 h2
    cases x with
    | true => exact tV_ext h2 h1 q
    | false => exact tV_ext h2 h1 q
end
end VS
namespace VS
open PySem PySem.Spec PyProof.Rows L2

section
variable {X : Cx} {c : JC} {w : WX} {e a b d : Expr} {es : List Expr} {pos p : Pos} {x : Str}

/-! ### not as a value, by truth -/
def dNot (d : D) : Option OO := d.tru.map fun b => .v (.bl (!b))
theorem d_not : Op1 X (fun x H Q => ∃ k, TruV X.K x H k ∧ Q (.bl (!k)) H) dNot := fun τ H π x s Q hd hx q => by
  unfold dNot at q
  cases e : s.fr.tru with
  | none => rw [e] at q; exact q.elim
  | some k => rw [e] at q; exact ⟨k, hx.view.tru e, q _ H (.refl H) (.bl _)⟩
theorem o_not {ta : TQ} (ha : PE X a (tQ (gX X) c ta)) : PE X (.UnaryOp .Not a pos) (tO (gX X) c (o1 dNot ta)) := o_1 (pe_notT ha) d_not
theorem v_not {ta : TV} (ha : PE X a (tV (gX X) c w ta)) : PE X (.UnaryOp .Not a pos) (tV (gX X) c w (v1 dNot ta)) := v_1 (pe_notT ha) d_not

/-! ### a <= b <= c, quiet -/
def oCh (f g : D → D → Option OO) (ta tb tc : TQ) : Env → Option OO := fun ρ => (ta ρ).bind fun s => (tb ρ).bind fun s' => match f s.fr s'.fr with
  | some (.v (.bl true)) => (tc ρ).bind fun s'' => g s'.fr s''.fr
  | some (.v (.bl false)) => some (.v (.bl false))
  | _ => none
theorem io_ch {r r' : R2} {f g : D → D → Option OO} {ta tb tc : TQ} (hf : Op2 X r f) (hg : Op2 X r' g) (σ : L2.St) (H : Hp) (Q : VK) (z : tO (gX X) c (oCh f g ta tb tc) σ H Q) : tChain r r' (tQ (gX X) c ta) (tQ (gX X) c tb) (tQ (gX X) c tc) σ H Q := by
  obtain ⟨τ, ρ, j, q⟩ := z
  unfold oCh at q
  cases e1 : ta ρ with
  | none => rw [e1] at q; exact q.elim
  | some s =>
    cases e2 : tb ρ with
    | none => rw [e1, e2] at q; exact q.elim
    | some s' =>
      rw [e1, e2] at q
      dsimp only [Option.bind] at q
      refine ⟨τ, ρ, s, j, e1, fun v H1 π s1 j1 hw => ⟨τ, ρ, s', j1, e2, fun v' H2 π' s2 j2 hw' => ?_⟩⟩
      cases e3 : f s.fr s'.fr with
      | none => rw [e3] at q; exact q.elim
      | some o =>
        rw [e3] at q
        cases o with
        | n _ => exact q.elim
        | v d =>
          cases d with
          | bl k =>
            refine hf τ H2 π π' v v' s s' _ (dom0 j2) (hw.same s2) hw' ?_
            rw [e3]
            intro u H3 s3 f3
            cases f3
            refine ⟨k, rfl, ?_⟩
            cases k with
            | false =>
              rw [if_neg Bool.false_ne_true]
              exact q _ H3 ((s1.trans s2).trans s3) (j2.same s3) (.bl false)
            | true =>
              rw [if_pos rfl]
              dsimp only at q
              cases e4 : tc ρ with
              | none => rw [e4] at q; exact q.elim
              | some s'' =>
                rw [e4] at q
                dsimp only at q
                refine ⟨τ, ρ, s'', j2.same s3, e4, fun v3 H4 π3 s4 j4 hw3 => hg τ H4 π' π3 v' v3 s' s'' Q (dom0 j4) ((hw'.same s3).same s4) hw3 ?_⟩
                have st := ((s1.trans s2).trans s3).trans s4
                unfold OOk
                cases e5 : g s'.fr s''.fr with
                | none => rw [e5] at q; exact q
                | some o =>
                  rw [e5] at q
                  cases o with
                  | v d => exact fun v5 H5 s5 f5 => q v5 H5 (st.trans s5) (j4.same s5) f5
                  | n s5 => exact fun v5 H5 n => q v5 H5 (j4.same n.same) (let ⟨p, H6, x1, x2, x3, x4⟩ := n; ⟨p, H6, x1, st.trans x2, x3, x4⟩)
          | _ => exact q.elim
theorem o_ch {op op' : CmpOp} {r r' : R2} {f g : D → D → Option OO} {ta tb tc : TQ} (hr : OpR X (compareOp op) r) (hr' : OpR X (compareOp op') r') (hf : Op2 X r f) (hg : Op2 X r' g) (ha : PE X a (tQ (gX X) c ta)) (hb : PE X b (tQ (gX X) c tb)) (hd : PE X d (tQ (gX X) c tc))
    (hm : lastMarks [op, op'] [b, d] = false := by with_unfolding_all rfl) : PE X (.Compare a [op, op'] [b, d] pos) (tO (gX X) c (oCh f g ta tb tc)) := PEw (pe_chain hr hr' ha hb hd hm) (io_ch hf hg)
theorem b_ch {op op' : CmpOp} {r r' : R2} {f g : D → D → Option OO} {ta tb tc : TQ} (hr : OpR X (compareOp op) r) (hr' : OpR X (compareOp op') r') (hf : Op2 X r f) (hg : Op2 X r' g) (ha : PE X a (tQ (gX X) c ta)) (hb : PE X b (tQ (gX X) c tb)) (hd : PE X d (tQ (gX X) c tc))
    (hm : lastMarks [op, op'] [b, d] = false := by with_unfolding_all rfl) : PT X (.Compare a [op, op'] [b, d] pos) (tTV (gX X) c w (bC (oV (oCh f g ta tb tc)))) :=
  b_c (pt_chain hr hr' ha hb hd hm) fun σ H Q z => io_ch hf hg σ H Q (iv_o σ H Q z)

/-! ### calls of built-in functions and classes -/
abbrev rC1 (r : List V → Hp → VK → Prop) : V → Hp → VK → Prop := fun x H Q => r [x] H Q
abbrev rC2 (r : List V → Hp → VK → Prop) : R2 := fun x y H Q => r [x, y] H Q
section
variable {id T : String} {r : List V → Hp → VK → Prop} {f : D → Option OO} {f2 : D → D → Option OO} {ta tb : TQ} {va vb : TV}
theorem o_b1 (hc : CallR X (.builtin id) r) (hf : Op1 X (rC1 r) f) (hm : X.mg x = none) (hv : bootBuiltins x = some (.builtin id)) (hg : Gl X x) (ha : PE X a (tQ (gX X) c ta)) (hn : x ≠ "__name__" := by decide) (hdb : (x == ("__debug__" : Str)) = false := by decide)
    (he : starEach [a] X.env = (false, eval a X.env) :: starEach [] X.env := by rfl) (hpl : (backTo pos (starEach [] X.env)).any (·.1) = false := by rfl) : PE X (.Call (.Name x p) [a] [] pos) (tO (gX X) c (o1 f ta)) :=
  o_1 (pe_callB hc hg hm hv (pa_cons ha pa_nil he) hn hdb he hpl) hf
theorem v_b1 (hc : CallR X (.builtin id) r) (hf : Op1 X (rC1 r) f) (hm : X.mg x = none) (hv : bootBuiltins x = some (.builtin id)) (hg : Gl X x) (ha : PE X a (tV (gX X) c w va)) (hn : x ≠ "__name__" := by decide) (hdb : (x == ("__debug__" : Str)) = false := by decide)
    (he : starEach [a] X.env = (false, eval a X.env) :: starEach [] X.env := by rfl) (hpl : (backTo pos (starEach [] X.env)).any (·.1) = false := by rfl) : PE X (.Call (.Name x p) [a] [] pos) (tV (gX X) c w (v1 f va)) :=
  v_1 (pe_callB hc hg hm hv (pa_cons ha pa_nil he) hn hdb he hpl) hf
theorem o_t1 (hc : CallR X (.type T) r) (hf : Op1 X (rC1 r) f) (hm : X.mg x = none) (hv : bootBuiltins x = some (.type T)) (hg : Gl X x) (ha : PE X a (tQ (gX X) c ta)) (hn : x ≠ "__name__" := by decide) (hdb : (x == ("__debug__" : Str)) = false := by decide)
    (he : starEach [a] X.env = (false, eval a X.env) :: starEach [] X.env := by rfl) (hpl : (backTo pos (starEach [] X.env)).any (·.1) = false := by rfl) : PE X (.Call (.Name x p) [a] [] pos) (tO (gX X) c (o1 f ta)) :=
  o_1 (pe_callTy hc hg hm hv (pa_cons ha pa_nil he) hn hdb he hpl) hf
theorem v_t1 (hc : CallR X (.type T) r) (hf : Op1 X (rC1 r) f) (hm : X.mg x = none) (hv : bootBuiltins x = some (.type T)) (hg : Gl X x) (ha : PE X a (tV (gX X) c w va)) (hn : x ≠ "__name__" := by decide) (hdb : (x == ("__debug__" : Str)) = false := by decide)
    (he : starEach [a] X.env = (false, eval a X.env) :: starEach [] X.env := by rfl) (hpl : (backTo pos (starEach [] X.env)).any (·.1) = false := by rfl) : PE X (.Call (.Name x p) [a] [] pos) (tV (gX X) c w (v1 f va)) :=
  v_1 (pe_callTy hc hg hm hv (pa_cons ha pa_nil he) hn hdb he hpl) hf
theorem o_b2 (hc : CallR X (.builtin id) r) (hf : Op2 X (rC2 r) f2) (hm : X.mg x = none) (hv : bootBuiltins x = some (.builtin id)) (hg : Gl X x) (ha : PE X a (tQ (gX X) c ta)) (hb : PE X b (tQ (gX X) c tb)) (hn : x ≠ "__name__" := by decide) (hdb : (x == ("__debug__" : Str)) = false := by decide)
    (hb1 : starEach [b] X.env = (false, eval b X.env) :: starEach [] X.env := by rfl) (he : starEach [a, b] X.env = (false, eval a X.env) :: starEach [b] X.env := by rfl) (hpl : (backTo pos (starEach [b] X.env)).any (·.1) = false := by rfl) : PE X (.Call (.Name x p) [a, b] [] pos) (tO (gX X) c (o2 f2 ta tb)) :=
  o_2 (pe_callB hc hg hm hv (pa_cons ha (pa_cons hb pa_nil hb1) he) hn hdb he hpl) hf
theorem v_b2 (hc : CallR X (.builtin id) r) (hf : Op2 X (rC2 r) f2) (hm : X.mg x = none) (hv : bootBuiltins x = some (.builtin id)) (hg : Gl X x) (ha : PE X a (tV (gX X) c w va)) (hb : PE X b (tV (gX X) c w vb)) (hn : x ≠ "__name__" := by decide) (hdb : (x == ("__debug__" : Str)) = false := by decide)
    (hb1 : starEach [b] X.env = (false, eval b X.env) :: starEach [] X.env := by rfl) (he : starEach [a, b] X.env = (false, eval a X.env) :: starEach [b] X.env := by rfl) (hpl : (backTo pos (starEach [b] X.env)).any (·.1) = false := by rfl) : PE X (.Call (.Name x p) [a, b] [] pos) (tV (gX X) c w (v2 f2 va vb)) :=
  v_2 (pe_callB hc hg hm hv (pa_cons ha (pa_cons hb pa_nil hb1) he) hn hdb he hpl) hf
end
def CallR_or {f : Value} {r r' : List V → Hp → VK → Prop} (h : CallR X f r) (h' : CallR X f r') : CallR X f (fun xs H Q => r xs H Q ∨ r' xs H Q) := fun pins s σ H xs us Q I rv q => q.elim (h pins s σ H xs us Q I rv) (h' pins s σ H xs us Q I rv)
def dLen : D → Option OO
  | .lst ds => some (.v (.int ds.length))
  | .tup ds => some (.v (.int ds.length))
  | .scr ns => some (.v (.int ns.length))
  | .str x => if x.length ≤ sizeLine then some (.v (.int x.length)) else none
  | .dct false ks _ => some (.v (.int ks.length))
  | _ => none
abbrev rLen2 (X : Cx) : List V → Hp → VK → Prop := fun xs H Q => (∃ x n, xs = [x] ∧ LenV X.K x H n ∧ Q (.int n) H) ∨ ∃ a kvs, xs = [V.ref a] ∧ H a = some (.dK kvs) ∧ Q (.int kvs.length) H
theorem r_len : CallR X (.builtin "len") (rLen2 X) := CallR_or call_len call_lenD
theorem d_len : Op1 X (rC1 (rLen2 X)) dLen := fun τ H π x s Q hd hx q => by
  unfold dLen at q
  split at q
  · rename_i ds e1
    obtain ⟨a, vs, rfl, h1, f⟩ := hx.lst_of e1
    exact .inl ⟨_, ds.length, rfl, .inl ⟨vs, .inl (.inl h1), f.len.symm⟩, q _ H (.refl H) (.int _)⟩
  · rename_i ds e1
    obtain ⟨a, vs, rfl, h1, _, f⟩ := hx.tup_of e1
    exact .inl ⟨_, ds.length, rfl, .inr ⟨vs, .inl (.inl h1), f.len.symm⟩, q _ H (.refl H) (.int _)⟩
  · rename_i ns e1
    obtain ⟨a, rfl, h1⟩ := hx.scr_of e1
    exact .inl ⟨_, ns.length, rfl, .inl ⟨_, h1, by rw [List.length_map]⟩, q _ H (.refl H) (.int _)⟩
  · rename_i y e1
    by_cases hl : y.length ≤ sizeLine
    · rw [if_pos hl] at q
      obtain ⟨rfl, _⟩ := hx.str_of e1
      exact .inl ⟨_, y.length, rfl, ⟨hl, rfl⟩, q _ H (.refl H) (.int _)⟩
    · rw [if_neg hl] at q; exact q.elim
  · rename_i ks ds e1
    obtain ⟨a, kvs, rfl, h1, e2, f⟩ := hx.dK_of e1
    refine .inr ⟨a, kvs, rfl, h1, ?_⟩
    have := q _ H (.refl H) (.int _)
    rw [e2, List.length_map] at this
    exact this
  · exact q.elim
def dAbs : D → Option OO
  | .int i => some (.v (.int (if i < 0 then -i else i)))
  | _ => none
theorem d_abs : Op1 X (rC1 fun xs H Q => ∃ i, xs = [.int i] ∧ Q (.int (if i < 0 then -i else i)) H) dAbs := fun τ H π x s Q hd hx q => by
  unfold dAbs at q
  split at q
  · rename_i i e1
    exact ⟨i, by rw [hx.int_of e1], q _ H (.refl H) (.int _)⟩
  · exact q.elim
def dInt : D → Option OO
  | .int i => some (.v (.int i))
  | .bl b => some (.v (.int (if b then 1 else 0)))
  | .str x => match PySem.intText? x with
    | some n => if x.length ≤ 640 then some (.v (.int n)) else none
    | none => none
  | _ => none
abbrev rInt2 : List V → Hp → VK → Prop := fun xs H Q => ((∃ i, xs = [.int i] ∧ Q (.int i) H) ∨ ∃ k, xs = [.bl k] ∧ Q (.int (if k then 1 else 0)) H) ∨ ∃ a n, xs = [.str a] ∧ PySem.intText? a = some n ∧ a.length ≤ 640 ∧ Q (.int n) H
theorem r_int : CallR X (.type "int") rInt2 := CallR_or call_int1 call_int_str
theorem d_int : Op1 X (rC1 rInt2) dInt := fun τ H π x s Q hd hx q => by
  unfold dInt at q
  split at q
  · rename_i i e1
    exact .inl (.inl ⟨i, by rw [hx.int_of e1], q _ H (.refl H) (.int _)⟩)
  · rename_i i e1
    exact .inl (.inr ⟨i, by rw [hx.bl_of e1], q _ H (.refl H) (.int _)⟩)
  · rename_i y e1
    cases e2 : PySem.intText? y with
    | none => rw [e2] at q; exact q.elim
    | some n =>
      rw [e2] at q
      dsimp only at q
      by_cases hl : y.length ≤ 640
      · rw [if_pos hl] at q
        exact .inr ⟨y, n, by rw [(hx.str_of e1).1], e2, hl, q _ H (.refl H) (.int _)⟩
      · rw [if_neg hl] at q; exact q.elim
  · exact q.elim
theorem strOk_int (i : Int) : PyData.strOk (toString i : String) = true := by
  unfold PyData.strOk
  rw [Array.all_eq_true_iff_forall_mem]
  intro n hn
  refine decide_eq_true (Nat.lt_of_not_le fun h => ?_)
  exact int_text_free' n ⟨by omega, .inr (by omega)⟩ i (by simpa using hn)
def dStr : D → Option OO
  | .int i => if i.natAbs.log2 < 1920 then some (.v (.str (toString i : String))) else none
  | .str x => some (.v (.str x))
  | _ => none
abbrev rStr2 : List V → Hp → VK → Prop := fun xs H Q => (∃ i, xs = [.int i] ∧ i.natAbs.log2 < 1920 ∧ Q (.str (toString i : String)) H) ∨ ∃ a, xs = [.str a] ∧ Q (.str a) H
theorem r_str : CallR X (.type "str") rStr2 := CallR_or call_str_int SkE.call_str_str
theorem d_str : Op1 X (rC1 rStr2) dStr := fun τ H π x s Q hd hx q => by
  unfold dStr at q
  split at q
  · rename_i i e1
    by_cases hl : i.natAbs.log2 < 1920
    · rw [if_pos hl] at q
      exact .inl ⟨i, by rw [hx.int_of e1], hl, q _ H (.refl H) (.str _ (strOk_int i))⟩
    · rw [if_neg hl] at q; exact q.elim
  · rename_i y e1
    obtain ⟨h1, h2⟩ := hx.str_of e1
    exact .inr ⟨y, by rw [h1], q _ H (.refl H) (.str _ h2)⟩
  · exact q.elim
def dBool : D → Option OO
  | .int i => some (.v (.bl (i != 0)))
  | .bl b => some (.v (.bl b))
  | _ => none
theorem d_bool : Op1 X (rC1 fun xs H Q => (∃ i, xs = [.int i] ∧ Q (.bl (i != 0)) H) ∨ ∃ k, xs = [.bl k] ∧ Q (.bl k) H) dBool := fun τ H π x s Q hd hx q => by
  unfold dBool at q
  split at q
  · rename_i i e1
    exact .inl ⟨i, by rw [hx.int_of e1], q _ H (.refl H) (.bl _)⟩
  · rename_i i e1
    exact .inr ⟨i, by rw [hx.bl_of e1], q _ H (.refl H) (.bl _)⟩
  · exact q.elim
/-- list(xs), tuple(xs) -/
def dList : D → Option OO
  | .lst ds => some (.n (.lst ds))
  | .tup ds => some (.n (.lst ds))
  | .scr ns => some (.n (.lst (ns.map .int)))
  | _ => none
theorem d_list : Op1 X (rC1 fun xs H Q => ∃ p ys, xs = [.ref p] ∧ (SqL X.K H p ys ∨ SqT X.K H p ys) ∧ ∀ l, H l = none → Q (.ref l) (upd H l (.lst ys))) dList := fun τ H π x s Q hd hx q => by
  unfold dList at q
  split at q
  · rename_i ds e1
    obtain ⟨a, vs, rfl, h1, f⟩ := hx.lst_of e1
    exact ⟨a, vs, rfl, .inl (.inl (.inl h1)), fun l hn => q _ _ (Nw.lst (K := H) hn f)⟩
  · rename_i ds e1
    obtain ⟨a, vs, rfl, h1, _, f⟩ := hx.tup_of e1
    exact ⟨a, vs, rfl, .inr (.inl (.inl h1)), fun l hn => q _ _ (Nw.lst (K := H) hn f)⟩
  · rename_i ns e1
    obtain ⟨a, rfl, h1⟩ := hx.scr_of e1
    exact ⟨a, _, rfl, .inl h1, fun l hn => q _ _ (Nw.lst (K := H) hn (Fs.of_ints ns))⟩
  · exact q.elim
def dTuple : D → Option OO
  | .lst ds => some (.v (.tup ds))
  | .tup ds => some (.v (.tup ds))
  | _ => none
theorem d_tuple : Op1 X (rC1 fun xs H Q => ∃ p ys, xs = [.ref p] ∧ ((SqL X.K H p ys ∧ ∀ l, H l = none → Q (.ref l) (upd H l (.tup ys))) ∨ (SqT X.K H p ys ∧ Q (.ref p) H))) dTuple := fun τ H π x s Q hd hx q => by
  unfold dTuple at q
  split at q
  · rename_i ds e1
    obtain ⟨a, vs, rfl, h1, f⟩ := hx.lst_of e1
    exact ⟨a, vs, rfl, .inl ⟨.inl (.inl h1), fun l hn => q _ _ (same_new hn) (F.tupN hd hn f)⟩⟩
  · rename_i ds e1
    obtain ⟨a, vs, rfl, h1, h2, f⟩ := hx.tup_of e1
    exact ⟨a, vs, rfl, .inr ⟨.inl (.inl h1), q _ H (.refl H) (.tup h1 h2 f)⟩⟩
  · exact q.elim
/-- the ints of a list -/
def D.ints : List D → Option (List Int)
  | [] => some []
  | .int i :: r => (D.ints r).map (i :: ·)
  | _ :: _ => none
theorem D.ints_eq : ∀ {ds : List D} {ns : List Int}, D.ints ds = some ns → ds = ns.map D.int
  | [], ns, h => by cases h; rfl
  | d :: r, ns, h => by
    cases d <;> simp [D.ints] at h
    obtain ⟨l, h1, rfl⟩ := h
    rw [D.ints_eq h1]; rfl
theorem D.ints_map : ∀ ns : List Int, D.ints (ns.map D.int) = some ns
  | [] => rfl
  | n :: r => by simp [D.ints, D.ints_map r]
def dSum : D → Option OO
  | .lst ds => (D.ints ds).map fun ns => .v (.int ns.sum)
  | _ => none
theorem d_sum : Op1 X (rC1 (rSum X.K)) dSum := fun τ H π x s Q hd hx q => by
  unfold dSum at q
  split at q
  · rename_i ds e1
    cases e2 : D.ints ds with
    | none => rw [e2] at q; exact q.elim
    | some ns =>
      rw [e2] at q
      obtain ⟨a, vs, rfl, h1, f⟩ := hx.lst_of e1
      rw [D.ints_eq e2] at f
      have := f.ints
      subst this
      exact ⟨a, ns, rfl, .inl (.inl h1), q _ H (.refl H) (.int _)⟩
  · exact q.elim
def maxI : List Int → Int
  | [] => 0
  | [a] => a
  | a :: r => max a (maxI r)
def minI : List Int → Int
  | [] => 0
  | [a] => a
  | a :: r => min a (minI r)
theorem maxI_spec : ∀ {ns : List Int}, ns ≠ [] → maxI ns ∈ ns ∧ ∀ y ∈ ns, y ≤ maxI ns
  | [], h => absurd rfl h
  | [a], _ => ⟨List.mem_singleton.mpr rfl, fun y h => by rw [List.mem_singleton.mp h]; exact Int.le_refl _⟩
  | a :: b :: r, _ => by
    obtain ⟨h1, h2⟩ := maxI_spec (ns := b :: r) (by simp)
    have e : maxI (a :: b :: r) = max a (maxI (b :: r)) := rfl
    rw [e]
    refine ⟨?_, fun y hy => ?_⟩
    · by_cases h : a ≤ maxI (b :: r)
      · rw [Int.max_eq_right h]; exact List.mem_cons_of_mem _ h1
      · rw [Int.max_eq_left (by omega)]; exact List.mem_cons_self
    · rcases List.mem_cons.mp hy with rfl | hy
      · exact Int.le_max_left _ _
      · exact Int.le_trans (h2 y hy) (Int.le_max_right _ _)
theorem minI_spec : ∀ {ns : List Int}, ns ≠ [] → minI ns ∈ ns ∧ ∀ y ∈ ns, minI ns ≤ y
  | [], h => absurd rfl h
  | [a], _ => ⟨List.mem_singleton.mpr rfl, fun y h => by rw [List.mem_singleton.mp h]; exact Int.le_refl _⟩
  | a :: b :: r, _ => by
    obtain ⟨h1, h2⟩ := minI_spec (ns := b :: r) (by simp)
    have e : minI (a :: b :: r) = min a (minI (b :: r)) := rfl
    rw [e]
    refine ⟨?_, fun y hy => ?_⟩
    · by_cases h : a ≤ minI (b :: r)
      · rw [Int.min_eq_left h]; exact List.mem_cons_self
      · rw [Int.min_eq_right (by omega)]; exact List.mem_cons_of_mem _ h1
    · rcases List.mem_cons.mp hy with rfl | hy
      · exact Int.min_le_left _ _
      · exact Int.le_trans (Int.min_le_right _ _) (h2 y hy)
def dMax : D → Option OO
  | .lst ds => (D.ints ds).bind fun ns => if ns = [] then none else some (.v (.int (maxI ns)))
  | _ => none
def dMin : D → Option OO
  | .lst ds => (D.ints ds).bind fun ns => if ns = [] then none else some (.v (.int (minI ns)))
  | _ => none
theorem d_max : Op1 X (rC1 (rMax X.K)) dMax := fun τ H π x s Q hd hx q => by
  unfold dMax at q
  split at q
  · rename_i ds e1
    cases e2 : D.ints ds with
    | none => rw [e2] at q; exact q.elim
    | some ns =>
      rw [e2] at q
      dsimp only [Option.bind] at q
      by_cases hn : ns = []
      · rw [if_pos hn] at q; exact q.elim
      · rw [if_neg hn] at q
        obtain ⟨a, vs, rfl, h1, f⟩ := hx.lst_of e1
        rw [D.ints_eq e2] at f
        have := f.ints
        subst this
        obtain ⟨m1, m2⟩ := maxI_spec hn
        refine ⟨a, ns, rfl, .inl (.inl h1), List.length_pos_iff.mpr hn, fun m hm hle => ?_⟩
        have e : m = maxI ns := Int.le_antisymm (m2 m hm) (hle _ m1)
        rw [e]
        exact q _ H (.refl H) (.int _)
  · exact q.elim
theorem d_min : Op1 X (rC1 (rMin X.K)) dMin := fun τ H π x s Q hd hx q => by
  unfold dMin at q
  split at q
  · rename_i ds e1
    cases e2 : D.ints ds with
    | none => rw [e2] at q; exact q.elim
    | some ns =>
      rw [e2] at q
      dsimp only [Option.bind] at q
      by_cases hn : ns = []
      · rw [if_pos hn] at q; exact q.elim
      · rw [if_neg hn] at q
        obtain ⟨a, vs, rfl, h1, f⟩ := hx.lst_of e1
        rw [D.ints_eq e2] at f
        have := f.ints
        subst this
        obtain ⟨m1, m2⟩ := minI_spec hn
        refine ⟨a, ns, rfl, .inl (.inl h1), List.length_pos_iff.mpr hn, fun m hm hle => ?_⟩
        have e : m = minI ns := Int.le_antisymm (hle _ m1) (m2 m hm)
        rw [e]
        exact q _ H (.refl H) (.int _)
  · exact q.elim
def dMax2 : D → D → Option OO
  | .int i, .int j => some (.v (.int (if j > i then j else i)))
  | _, _ => none
def dMin2 : D → D → Option OO
  | .int i, .int j => some (.v (.int (if j < i then j else i)))
  | _, _ => none
theorem d_max2 : Op2 X (rC2 fun xs H Q => ∃ i j, xs = [.int i, .int j] ∧ Q (.int (if j > i then j else i)) H) dMax2 := fun τ H π π' x y s s' Q hd hx hy q => by
  unfold dMax2 at q
  split at q
  · rename_i i j e1 e2
    exact ⟨i, j, by rw [hx.int_of e1, hy.int_of e2], q _ H (.refl H) (.int _)⟩
  · exact q.elim
theorem d_min2 : Op2 X (rC2 fun xs H Q => ∃ i j, xs = [.int i, .int j] ∧ Q (.int (if j < i then j else i)) H) dMin2 := fun τ H π π' x y s s' Q hd hx hy q => by
  unfold dMin2 at q
  split at q
  · rename_i i j e1 e2
    exact ⟨i, j, by rw [hx.int_of e1, hy.int_of e2], q _ H (.refl H) (.int _)⟩
  · exact q.elim

/-! ### isinstance with built-in classes -/
def D.ty : D → Option String
  | .non => some "NoneType"
  | .bl _ => some "bool"
  | .int _ => some "int"
  | .str _ => some "str"
  | .tup _ => some "tuple"
  | .lst _ => some "list"
  | .dct _ _ _ => some "dict"
  | _ => none
theorem F.ty {g : Gm} {τ : Tg} {H : Hp} {v : V} {d : D} {t : String} (h : F g τ H v d) (e : d.ty = some t) : TyOf g.K H v (.type t) := by
  cases h <;> simp [D.ty] at e <;> subst e
  · exact .non
  · exact .bl _
  · exact .int _
  · exact .str _
  · exact .tup (by assumption)
  · exact .lst (by assumption)
  · exact .dK (by assumption)
  · exact .dT (by assumption)
/-- which of these an object's class stands under -/
def isaB (t T : String) : Bool := t == T || (t == "bool" && T == "int")
def tyNames : List String := ["NoneType", "bool", "int", "str", "tuple", "list", "dict"]
theorem kitB_ok : ∀ t ∈ tyNames, ∀ T ∈ tyNames.tail, kitB t T = some (isaB t T) := by decide +kernel
theorem D.ty_mem {d : D} {t : String} (h : d.ty = some t) : t ∈ tyNames := by
  cases d <;> simp [D.ty] at h <;> subst h <;> decide
def D.isa (d : D) (T : String) : Option Bool := d.ty.map fun t => isaB t T
def dIsa (T : String) (d : D) : Option OO := (d.isa T).map fun b => .v (.bl b)
theorem o_isi {T : String} {ta : TQ} {y : Str} {p2 : Pos} (hT : T ∈ tyNames.tail) (hm : X.mg x = none) (hv : bootBuiltins x = some (.builtin "isinstance")) (hg : Gl X x) (hmT : X.mg y = none) (hvT : bootBuiltins y = some (.type T)) (hgT : Gl X y) (ha : PE X a (tQ (gX X) c ta)) (hn : x ≠ "__name__" := by decide) (hdb : (x == ("__debug__" : Str)) = false := by decide)
    (hn2 : y ≠ "__name__" := by decide) (hdb2 : (y == ("__debug__" : Str)) = false := by decide) (hb1 : starEach [.Name y p2] X.env = (false, eval (.Name y p2) X.env) :: starEach [] X.env := by rfl) (he : starEach [a, .Name y p2] X.env = (false, eval a X.env) :: starEach [.Name y p2] X.env := by rfl)
    (hpl : (backTo pos (starEach [.Name y p2] X.env)).any (·.1) = false := by rfl) : PE X (.Call (.Name x p) [a, .Name y p2] [] pos) (tO (gX X) c (o1 (dIsa T) ta)) :=
  o_1 (r := fun v H Q => rIsi X.K [v, .ty T] H Q) (pe_callB call_isi hg hm hv (pa_cons ha (pa_cons (pe_bltn (v := .ty T) hgT hmT hvT rfl hn2 hdb2) pa_nil hb1) he) hn hdb he hpl) fun τ H π v s Q hd hx q => by
    unfold dIsa D.isa at q
    cases e1 : s.fr.ty with
    | none => rw [e1] at q; exact q.elim
    | some t =>
      rw [e1] at q
      exact ⟨v, .ty T, .type t, .type T, isaB t T, rfl, .ty T, .base (hx.view.ty e1), kit_ty (kitB_ok t (D.ty_mem e1) T hT), q _ H (.refl H) (.bl _)⟩
theorem v_isi {T : String} {ta : TV} {y : Str} {p2 : Pos} (hT : T ∈ tyNames.tail) (hm : X.mg x = none) (hv : bootBuiltins x = some (.builtin "isinstance")) (hg : Gl X x) (hmT : X.mg y = none) (hvT : bootBuiltins y = some (.type T)) (hgT : Gl X y) (ha : PE X a (tV (gX X) c w ta)) (hn : x ≠ "__name__" := by decide) (hdb : (x == ("__debug__" : Str)) = false := by decide)
    (hn2 : y ≠ "__name__" := by decide) (hdb2 : (y == ("__debug__" : Str)) = false := by decide) (hb1 : starEach [.Name y p2] X.env = (false, eval (.Name y p2) X.env) :: starEach [] X.env := by rfl) (he : starEach [a, .Name y p2] X.env = (false, eval a X.env) :: starEach [.Name y p2] X.env := by rfl)
    (hpl : (backTo pos (starEach [.Name y p2] X.env)).any (·.1) = false := by rfl) : PE X (.Call (.Name x p) [a, .Name y p2] [] pos) (tV (gX X) c w (v1 (dIsa T) ta)) :=
  v_1 (r := fun v H Q => rIsi X.K [v, .ty T] H Q) (pe_callB call_isi hg hm hv (pa_cons ha (pa_cons (pe_bltn (v := .ty T) hgT hmT hvT rfl hn2 hdb2) pa_nil hb1) he) hn hdb he hpl) fun τ H π v s Q hd hx q => by
    unfold dIsa D.isa at q
    cases e1 : s.fr.ty with
    | none => rw [e1] at q; exact q.elim
    | some t =>
      rw [e1] at q
      exact ⟨v, .ty T, .type t, .type T, isaB t T, rfl, .ty T, .base (hx.view.ty e1), kit_ty (kitB_ok t (D.ty_mem e1) T hT), q _ H (.refl H) (.bl _)⟩
/-- isinstance(a, (T, U)) -/
def dIsa2 (T U : String) (d : D) : Option OO := d.ty.map fun t => .v (.bl (isaB t T || isaB t U))
theorem o_isi2 {T U : String} {ta : TQ} {y z : Str} {p2 p3 p4 : Pos} {x1} (hT : T ∈ tyNames.tail) (hU : U ∈ tyNames.tail) (hm : X.mg x = none) (hv : bootBuiltins x = some (.builtin "isinstance")) (hg : Gl X x) (hmT : X.mg y = none) (hvT : bootBuiltins y = some (.type T)) (hgT : Gl X y) (hmU : X.mg z = none) (hvU : bootBuiltins z = some (.type U)) (hgU : Gl X z)
    (ha : PE X a (tQ (gX X) c ta)) (hn : x ≠ "__name__" := by decide) (hdb : (x == ("__debug__" : Str)) = false := by decide) (hn2 : y ≠ "__name__" := by decide) (hdb2 : (y == ("__debug__" : Str)) = false := by decide) (hn3 : z ≠ "__name__" := by decide) (hdb3 : (z == ("__debug__" : Str)) = false := by decide)
    (ht1 : starEach [.Name z p3] X.env = (false, eval (.Name z p3) X.env) :: starEach [] X.env := by rfl) (ht2 : starEach [.Name y p2, .Name z p3] X.env = (false, eval (.Name y p2) X.env) :: starEach [.Name z p3] X.env := by rfl)
    (hb1 : starEach [.Tuple [.Name y p2, .Name z p3] x1 p4] X.env = (false, eval (.Tuple [.Name y p2, .Name z p3] x1 p4) X.env) :: starEach [] X.env := by rfl) (he : starEach [a, .Tuple [.Name y p2, .Name z p3] x1 p4] X.env = (false, eval a X.env) :: starEach [.Tuple [.Name y p2, .Name z p3] x1 p4] X.env := by rfl)
    (hpl : (backTo pos (starEach [.Tuple [.Name y p2, .Name z p3] x1 p4] X.env)).any (·.1) = false := by rfl) : PE X (.Call (.Name x p) [a, .Tuple [.Name y p2, .Name z p3] x1 p4] [] pos) (tO (gX X) c (o1 (dIsa2 T U) ta)) :=
  o_1 (r := fun v H Q => 2 ≤ sizeLine ∧ ∀ p, H p = none → rIsiT X.K [v, .ref p] (upd H p (.tup [.ty T, .ty U])) Q) (pe_callB call_isiT hg hm hv (pa_cons ha (pa_cons (pe_tup (pa_cons (pe_bltn (v := .ty T) hgT hmT hvT rfl hn2 hdb2) (pa_cons (pe_bltn (v := .ty U) hgU hmU hvU rfl hn3 hdb3) pa_nil ht1) ht2)) pa_nil hb1) he) hn hdb he hpl) fun τ H π v s Q hd hx q => by
    unfold dIsa2 at q
    cases e1 : s.fr.ty with
    | none => rw [e1] at q; exact q.elim
    | some t =>
      rw [e1] at q
      refine ⟨by decide, fun p hn => ⟨v, p, [.ty T, .ty U], .type t, [.type T, .type U], isaB t T || isaB t U, rfl, upd_same, .cons (.ty T) (.cons (.ty U) .nil), .base ((hx.view.same (same_new hn)).ty e1), ?_, q _ _ (same_new hn) (.bl _)⟩⟩
      have k1 := kitB_ok t (D.ty_mem e1) T hT
      have k2 := kitB_ok t (D.ty_mem e1) U hU
      exact kitAny_cons (kit_ty k1) (fun h => kitAny_cons (kit_ty k2) (fun h2 => by rw [h, h2]; exact kitAny_nil) fun h2 => by rw [h2, Bool.or_true]) fun h => by rw [h, Bool.true_or]
end
end VS
namespace VS
open PySem PySem.Spec PyProof.Rows L2

section
variable {g : Gm} {c : JC} {τ : Tg} {σ : L2.St} {H : Hp} {ρ : Env}
/-- the thing of the slot i is changed -/
theorem J.mut {i : Nat} {a : Addr} {r : List Nat} {o : HO} {s' : S} {v : V} (j : J g c τ σ H ρ) (t : τ a = some ((i + 1) :: r)) (hv : σ[i]? = some (some v)) (hn : W g τ (upd H a o) [i + 1] v s') : J g c τ σ (upd H a o) (ρ.set i (some s')) := by
  have ne : ∀ {b q}, τ b = q → q ≠ some ((i + 1) :: r) → b ≠ a := fun {b q} e h z => by rw [z, t] at e; exact h e.symm
  have ex : Ext τ H τ (upd H a o) := fun b u tb e => ⟨tb, by rw [upd_ne (ne tb nofun)]; exact e⟩
  refine j.turn (by simpa using j.len) (fun b q e => ?_) ex (fun _ => Iff.rfl) (fun b e => by rw [upd_ne (ne e nofun)]) (fun k s e => ?_) fun _ _ => rfl
  · by_cases hb : b = a
    · rw [hb, upd_same]; exact ⟨_, rfl⟩
    · rw [upd_ne hb]; exact j.dom b q e
  · by_cases hk : i = k
    · subst hk
      have e2 := Option.some.inj (lset e)
      subst e2
      exact .inr ⟨v, hv, hn⟩
    · exact .inl ⟨by rw [lget hk] at e; exact e, rfl, fun b q u tb e => ⟨tb, by rw [upd_ne (ne tb fun z => hk (by cases z; rfl))]; exact e⟩⟩
theorem mut_ext {a : Addr} {q : List Nat} {o : HO} (t : τ a = some q) : Ext τ H τ (upd H a o) := fun b u tb e => ⟨tb, by rw [upd_ne (fun z => by rw [z, t] at tb; cases tb)]; exact e⟩
/-- a list in a slot -/
theorem J.lst {i : Nat} {ds : List D} (j : J g c τ σ H ρ) (h : ρ[i]? = some (some (.lst ds))) : ∃ a vs, σ[i]? = some (some (.ref a)) ∧ H a = some (.lst vs) ∧ τ a = some [i + 1] ∧ Fs g τ H vs ds := by
  obtain ⟨v, e, hw⟩ := j.env i _ h
  cases hw with
  | lst h1 h2 h3 => exact ⟨_, _, e, h1, h2, h3⟩
theorem J.setL {i : Nat} {a : Addr} {vs' : List V} {ds' : List D} (j : J g c τ σ H ρ) (hv : σ[i]? = some (some (.ref a))) (t : τ a = some [i + 1]) (f : Fs g τ H vs' ds') : Ext τ H τ (upd H a (.lst vs')) ∧ J g c τ σ (upd H a (.lst vs')) (ρ.set i (some (.lst ds'))) :=
  ⟨mut_ext t, j.mut t hv (.lst upd_same t (f.tr (mut_ext t)))⟩
end
/-- the list in a slot -/
def lstAt (ρ : Env) (i : Nat) : Option (List D) := match ρ[i]? with
  | some (some (.lst ds)) => some ds
  | _ => none
theorem lstAt_ok {ρ : Env} {i : Nat} {ds : List D} (h : lstAt ρ i = some ds) : ρ[i]? = some (some (.lst ds)) := by
  unfold lstAt at h
  split at h
  · rename_i e; cases h; exact e
  · cases h
section
variable {X : Cx} {c : JC} {w : WX} {e a b d : Expr} {es : List Expr} {pos p apos : Pos} {x : Str}

/-! ### methods that change a list in a slot: given the place, what is in it, the arguments' data: what is given back, what it holds then -/
abbrev LM := List D → List D → Option (D × List D)
/-- a rule of such a method -/
def LmOk (X : Cx) (id : String) (f : LM) : Prop := ∃ r : V → List V → Hp → VK → Prop, MtR X id r ∧ ∀ (g : Gm) (τ : Tg) (H : Hp) (q : List Nat) (a : Addr) (vs ws : List V) (ds es : List D) (d : D) (ds' : List D) (Q : VK),
  H a = some (.lst vs) → τ a = some q → Fs g τ H vs ds → Fs g τ H ws es → f ds es = some (d, ds') → (∀ v vs', F g τ H v d → Fs g τ H vs' ds' → Q v (upd H a (.lst vs'))) → r (.ref a) ws H Q
def vLm (f : LM) (i : Nat) (u : TAv) : TV := fun ρ => match lstAt ρ i with
  | none => .bad
  | some _ => (u ρ).th fun as ρ1 => match allFz as, lstAt ρ1 i with
    | some es, some ds => (match f ds es with
      | some (d, ds') => .ok (.fz d, ρ1.set i (some (.lst ds')))
      | none => .bad)
    | _, _ => .bad
theorem lm_core {f : LM} {i : Nat} {u : TAv} {r : V → List V → Hp → VK → Prop} (hf : ∀ (g : Gm) (τ : Tg) (H : Hp) (q : List Nat) (a : Addr) (vs ws : List V) (ds es : List D) (d : D) (ds' : List D) (Q : VK),
    H a = some (.lst vs) → τ a = some q → Fs g τ H vs ds → Fs g τ H ws es → f ds es = some (d, ds') → (∀ v vs', F g τ H v d → Fs g τ H vs' ds' → Q v (upd H a (.lst vs'))) → r (.ref a) ws H Q) (σ : L2.St) (H : Hp) (Q : VK) (q : tV (gX X) c w (vLm f i u) σ H Q) :
    tVar i σ H fun x H1 => tyV X.K "list" x H1 ∧ tA (gX X) c w u σ H1 fun xs H2 => r x xs H2 Q := by
  obtain ⟨τ, ρ, j, q⟩ := q
  unfold vLm at q
  cases e0 : lstAt ρ i with
  | none => rw [e0] at q; exact q.elim
  | some ds0 =>
    rw [e0] at q
    dsimp only at q
    obtain ⟨a, vs0, hv, h1, _, _⟩ := j.lst (lstAt_ok e0)
    refine ⟨_, hv, .inl ⟨rfl, _, .inl (.inl h1)⟩, τ, ρ, j, ?_⟩
    cases e1 : u ρ with
    | bad => rw [e1] at q; exact q
    | exc x ρ' => rw [e1] at q; exact q
    | ok z =>
      obtain ⟨as, ρ1⟩ := z
      rw [e1] at q
      dsimp only [R.th] at q
      intro ws H1 τ1 ex1 j1 har
      cases e2 : allFz as with
      | none => rw [e2] at q; exact q.elim
      | some es =>
        rw [e2] at q
        cases e3 : lstAt ρ1 i with
        | none => rw [e3] at q; exact q.elim
        | some ds =>
          rw [e3] at q
          dsimp only at q
          cases e4 : f ds es with
          | none => rw [e4] at q; exact q.elim
          | some z =>
            obtain ⟨d, ds'⟩ := z
            rw [e4] at q
            obtain ⟨a', vs, hv', g1, g2, g3⟩ := j1.lst (lstAt_ok e3)
            rw [hv] at hv'
            cases hv'
            refine hf (gX X) τ1 H1 _ a vs ws ds es d ds' Q g1 g2 g3 (allFz_ok e2 har) e4 fun v vs' f1 f2 => ?_
            obtain ⟨k1, k2⟩ := j1.setL hv g2 f2
            exact q v _ τ1 (ex1.trans k1) k2 (.fz (f1.tr k1))
theorem v_lm {id : String} {f : LM} {i : Nat} {u : TAv} {m : Str} (hm : LmOk X id f) (slot : Slot "list" m id) (hty : typeOf (.builtin id) = pure (.type "method_descriptor")) (ho : PE X a (tVar i)) (ha : PA X (e :: es) (tA (gX X) c w u))
    (hbase : attributeBase a m X.env (eval a X.env) = eval a X.env := by rfl)
    (hfew : ((backTo pos (starEach (e :: es) X.env)).all (fun x => !x.1) && (backToKw pos (keywordEach [] X.env)).all (fun x => x.1.isSome)
      && decide ((e :: es).length + ([] : List Keyword).length + (if ([] : List Keyword).isEmpty then 0 else 1) < 30)) = true := by rfl)
    (hline : (apos.endLine == pos.line) = true := by rfl) (hs : starEach (e :: es) X.env = (false, eval e X.env) :: starEach es X.env := by rfl) (hplain : (backTo pos (starEach es X.env)).any (·.1) = false := by rfl) :
    PE X (.Call (.Attribute a m apos) (e :: es) [] pos) (tV (gX X) c w (vLm f i u)) := by
  obtain ⟨r, h1, h2⟩ := hm
  exact PEw (pe_bm PySem.F.plainAttrs_list slot hty h1 ho ha hbase hfew hline hs hplain) (lm_core h2)
theorem v_lm0 {id : String} {f : LM} {i : Nat} {m : Str} (hm : LmOk X id f) (slot : Slot "list" m id) (hty : typeOf (.builtin id) = pure (.type "method_descriptor")) (ho : PE X a (tVar i))
    (hbase : attributeBase a m X.env (eval a X.env) = eval a X.env := by rfl) (hline : (apos.endLine == pos.line) = true := by rfl) : PE X (.Call (.Attribute a m apos) [] [] pos) (tV (gX X) c w (vLm f i aNo)) := by
  obtain ⟨r, h1, h2⟩ := hm
  refine PEw (pe_bm0 PySem.F.plainAttrs_list slot hty h1 ho hbase hline) fun σ H Q q => ?_
  obtain ⟨v, hv, ty, τ, ρ, j, q2⟩ := lm_core h2 σ H Q q
  exact ⟨v, hv, ty, q2 [] H τ .refl j ⟨rfl, fun i a e => by simp at e⟩⟩
def lmAppend : LM := fun ds es => match es with
  | [d] => if ds.length < sizeLine then some (.non, ds ++ [d]) else none
  | _ => none
def lmExtend : LM := fun ds es => match es with
  | [.lst xs] => if ds.length + xs.length ≤ sizeLine then some (.non, ds ++ xs) else none
  | _ => none
def lmInsert : LM := fun ds es => match es with
  | [.int i, d] => if ds.length < sizeLine ∧ 0 ≤ i ∧ i < 2 ^ 63 then some (.non, ds.take i.toNat ++ [d] ++ ds.drop i.toNat) else none
  | _ => none
def lmPop : LM := fun ds es => match es with
  | [] => (ds[ds.length - 1]?).map fun d => (d, ds.dropLast)
  | _ => none
def lmPopAt : LM := fun ds es => match es with
  | [.int i] => if -(2 ^ 63) ≤ i ∧ i < 2 ^ 63 then (match seqIndex? i ds.length with
    | some k => (ds[k]?).map fun d => (d, ds.eraseIdx k)
    | none => none) else none
  | _ => none
theorem Fs.one {g : Gm} {τ : Tg} {H : Hp} {ws : List V} {d : D} (h : Fs g τ H ws [d]) : ∃ v, ws = [v] ∧ F g τ H v d := by
  cases h with
  | cons f r => cases r; exact ⟨_, rfl, f⟩
theorem lm_append : LmOk X "list.append" lmAppend := ⟨rAppend, mt_append, fun g τ H q a vs ws ds es d ds' Q h1 h2 h3 h4 h5 h6 => by
  unfold lmAppend at h5
  split at h5
  · rename_i d0
    by_cases hl : ds.length < sizeLine
    · rw [if_pos hl] at h5
      cases h5
      obtain ⟨v, rfl, f⟩ := h4.one
      exact ⟨a, vs, v, rfl, rfl, h1, by rw [h3.len]; exact hl, h6 _ _ .non (h3.app (.cons f .nil))⟩
    · rw [if_neg hl] at h5; cases h5
  · cases h5⟩
theorem lm_extend : LmOk X "list.extend" lmExtend := ⟨rExtend, mt_extend, fun g τ H q a vs ws ds es d ds' Q h1 h2 h3 h4 h5 h6 => by
  unfold lmExtend at h5
  split at h5
  · rename_i xs
    by_cases hl : ds.length + xs.length ≤ sizeLine
    · rw [if_pos hl] at h5
      cases h5
      obtain ⟨v, rfl, f⟩ := h4.one
      cases f with
      | lst k1 k2 k3 => exact ⟨a, _, vs, _, rfl, rfl, h1, k1, by rw [h3.len, k3.len]; exact hl, h6 _ _ .non (h3.app k3)⟩
    · rw [if_neg hl] at h5; cases h5
  · cases h5⟩
theorem lm_insert : LmOk X "list.insert" lmInsert := ⟨_, mt_insert, fun g τ H q a vs ws ds es d ds' Q h1 h2 h3 h4 h5 h6 => by
  unfold lmInsert at h5
  split at h5
  · rename_i i d0
    by_cases hl : ds.length < sizeLine ∧ 0 ≤ i ∧ i < 2 ^ 63
    · rw [if_pos hl] at h5
      cases h5
      cases h4 with
      | cons f1 r =>
        cases f1
        obtain ⟨v, rfl, f⟩ := r.one
        exact ⟨a, vs, i, v, rfl, rfl, h1, by rw [h3.len]; exact hl.1, hl.2.1, hl.2.2, h6 _ _ .non (((h3.take _).app (.cons f .nil)).app (h3.drop _))⟩
    · rw [if_neg hl] at h5; cases h5
  · cases h5⟩
theorem Fs.dropLast {g : Gm} {τ : Tg} {H : Hp} {vs : List V} {ds : List D} (h : Fs g τ H vs ds) : Fs g τ H vs.dropLast ds.dropLast := by
  rw [List.dropLast_eq_take, List.dropLast_eq_take, h.len]
  exact h.take _
theorem lm_pop : LmOk X "list.pop" lmPop := ⟨rPop, mt_pop, fun g τ H q a vs ws ds es d ds' Q h1 h2 h3 h4 h5 h6 => by
  unfold lmPop at h5
  split at h5
  · cases e : ds[ds.length - 1]? with
    | none => rw [e] at h5; cases h5
    | some d0 =>
      rw [e] at h5
      cases h5
      cases h4
      obtain ⟨v, k1, k2⟩ := h3.get e
      exact ⟨a, vs, v, rfl, rfl, h1, by rw [h3.len]; exact k1, h6 _ _ k2 h3.dropLast⟩
  · cases h5⟩
theorem lm_popAt : LmOk X "list.pop" lmPopAt := ⟨rPopAt, mt_popAt, fun g τ H q a vs ws ds es d ds' Q h1 h2 h3 h4 h5 h6 => by
  unfold lmPopAt at h5
  split at h5
  · rename_i i
    by_cases hl : -(2 ^ 63) ≤ i ∧ i < 2 ^ 63
    · rw [if_pos hl] at h5
      cases e : seqIndex? i ds.length with
      | none => rw [e] at h5; cases h5
      | some k =>
        rw [e] at h5
        dsimp only at h5
        cases e2 : ds[k]? with
        | none => rw [e2] at h5; cases h5
        | some d0 =>
          rw [e2] at h5
          cases h5
          obtain ⟨v0, rfl, f⟩ := h4.one
          cases f
          obtain ⟨v, k1, k2⟩ := h3.get e2
          exact ⟨a, vs, i, k, v, rfl, rfl, h1, hl.1, hl.2, by rw [h3.len]; exact e, k1, h6 _ _ k2 (h3.erase _)⟩
    · rw [if_neg hl] at h5; cases h5
  · cases h5⟩

/-! ### x[k] = e -/
def dputs : List (List Key) → List D → List Key → D → List (List Key) × List D
  | k' :: ks, d' :: ds, k, d => if k' = k then (k' :: ks, d :: ds) else (k' :: (dputs ks ds k d).1, d' :: (dputs ks ds k d).2)
  | _, _, k, d => ([k], [d])
/-- what a list or a dict holds behind x[k] = d -/
def S.put (s : S) (k d : D) : Option S := match s, k with
  | .lst ds, .int i => (ixN ds.length i).map fun j => .lst (ds.set j d)
  | .dct t ks ds, k => match k.key with
    | some (t', k') => if t = t' ∧ ks.length < sizeLine ∧ ks.Nodup then some (.dct t (dputs ks ds k' d).1 (dputs ks ds k' d).2) else none
    | none => none
  | _, _ => none
def sPut (i : Nat) (t : TV) (tk : TQ) : TSt := fun ρ => (t ρ).st fun s ρ1 => match ρ1[i]?, tk ρ1 with
  | some (some o), some k => (match o.put k.fr s.fr with
    | some o' => .nx (ρ1.set i (some o'))
    | none => .bad)
  | _, _ => .bad
theorem put_rel {κ : Type} [DecidableEq κ] {g : Gm} {τ : Tg} {H : Hp} {m : κ → List Key} (hm : ∀ x y, m x = m y → x = y) (k : κ) {v : V} {d : D} (hv : F g τ H v d) : ∀ {kvs : List (κ × V)} {ds : List D}, (kvs.map fun p => m p.1).Nodup → Fs g τ H (kvs.map Prod.snd) ds →
    (dputs (kvs.map fun p => m p.1) ds (m k) d).1 = (putK kvs k v).map (fun p => m p.1) ∧ Fs g τ H ((putK kvs k v).map Prod.snd) (dputs (kvs.map fun p => m p.1) ds (m k) d).2
  | [], _, _, .nil => ⟨rfl, .cons hv .nil⟩
  | p :: kvs, _, nd, .cons f r => by
    have nd2 := (List.nodup_cons.mp nd)
    by_cases h : p.1 = k
    · have e : putK (p :: kvs) k v = (p.1, v) :: kvs := by
        unfold putK
        rw [if_pos (by simp [h])]
        rw [List.map_cons, if_pos h]
        congr 1
        rw [List.map_congr_left (g := id), List.map_id]
        intro q hq
        have : q.1 ≠ k := fun z => nd2.1 (List.mem_map.mpr ⟨q, hq, by show m q.1 = m p.1; rw [z, h]⟩)
        rw [if_neg this]; rfl
      rw [e]
      simp only [List.map_cons, dputs, h, if_true]
      exact ⟨trivial, .cons hv r⟩
    · have e : putK (p :: kvs) k v = p :: putK kvs k v := by
        unfold putK
        have e1 : ((p :: kvs).any fun kv => decide (kv.1 = k)) = kvs.any fun kv => decide (kv.1 = k) := by
          rw [List.any_cons, decide_eq_false h, Bool.false_or]
        rw [e1]
        split
        · rw [List.map_cons, if_neg h]
        · rfl
      obtain ⟨h1, h2⟩ := put_rel hm k hv nd2.2 r
      have hne : ¬ m p.1 = m k := fun z => h (hm _ _ z)
      rw [e]
      simp only [List.map_cons, dputs, if_neg hne]
      exact ⟨by rw [h1], .cons f h2⟩
theorem s_put {i : Nat} {t : TV} {tk : TQ} {pos' : Pos} (ho : PE X a (tVar i)) (hk : PE X b (tQ (gX X) c tk)) (he : PE X e (tV (gX X) c w t)) (hu : X.A.units + 65 < cLine) (hs : swapsWith e (some (.Subscript a b pos')) pos.line X.env = pure false := by rfl) (hss : swapsWithSole [.Subscript a b pos'] e pos.line X.env = pure false := by rfl) (hw : swappedStores [.Subscript a b pos'] e X.env = pure none := by rfl)
    (h1 : (assignEach [.Subscript a b pos'] X.env).map (·.2) = [assign (.Subscript a b pos') X.env] := by rfl)
    (hass : ∀ v, assign (.Subscript a b pos') X.env v = (do
      let ov ← holding [v] (eval a X.env)
      let iv ← holding [v, ov] (eval b X.env)
      standAt pos'
      holding [v, ov, iv] (setItem ov iv v)
      release [v, ov, iv] []) := by intro _; rfl) : PS X (.Assign [.Subscript a b pos'] e pos) (tS (gX X) c w (sPut i t tk)) := by
  have A1 := ps_asg (pos := pos) he (pg_sub ho hk (set_list (X := X)) hass) hss hw h1
  have A2 := ps_dput (pos := pos) (hu1 hu) ho hk he hs
  refine ⟨fun pins s σ H Dn I z => ?_⟩
  obtain ⟨τ, ρ, j, q⟩ := tS_iff.mp z
  unfold sPut at q
  cases e1 : t ρ with
  | bad => rw [e1] at q; exact q.elim
  | exc x ρ' => rw [e1] at q; exact A1.run pins s σ H Dn I ⟨τ, ρ, j, by rw [e1]; exact fun cls d H' τ' a1 a2 a3 => q cls d τ' σ H' a1 a2 a3⟩
  | ok z =>
    obtain ⟨s1, ρ1⟩ := z
    rw [e1] at q
    dsimp only [R.st] at q
    cases e2 : ρ1[i]? with
    | none => rw [e2] at q; exact q.elim
    | some o =>
      cases o with
      | none => rw [e2] at q; exact q.elim
      | some o =>
        rw [e2] at q
        cases e3 : tk ρ1 with
        | none => rw [e3] at q; exact q.elim
        | some k =>
          rw [e3] at q
          dsimp only at q
          cases e4 : o.put k.fr s1.fr with
          | none => rw [e4] at q; exact q.elim
          | some o' =>
            rw [e4] at q
            have q : ∀ τ' σ' H', Ext τ H τ' H' → J (gX X) c τ' σ' H' (ρ1.set i (some o')) → Dn.nx σ' H' := q
            unfold S.put at e4
            split at e4
            · rename_i ds n e5
              cases e6 : ixN ds.length n with
              | none => rw [e6] at e4; cases e4
              | some m =>
                rw [e6] at e4
                cases e4
                refine A1.run pins s σ H Dn I ⟨τ, ρ, j, ?_⟩
                rw [e1]
                intro v H1 τ1 a1 a2 a3
                have j1 := a2.freeze
                obtain ⟨ad, vs, hv, g1, g2, g3⟩ := j1.lst e2
                refine ⟨_, hv, _, ρ1, k, j1, e3, fun u H2 π sm j2 hu2 => ?_⟩
                obtain ⟨ad', vs', hv', g1, g2, g3⟩ := j2.lst e2
                rw [hv] at hv'; cases hv'
                refine ⟨ad, vs', n, m, rfl, hu2.int_of e5, g1, by rw [g3.len]; exact e6, ?_⟩
                obtain ⟨k1, k2⟩ := j2.setL hv g2 (g3.set m (a3.freeze.same sm))
                exact q _ σ _ (((a1.trans retag_ext).trans (.same sm)).trans k1) k2
            · rename_i t0 ks ds
              cases e5 : k.fr.key with
              | none => rw [e5] at e4; cases e4
              | some kk =>
                obtain ⟨t', k'⟩ := kk
                rw [e5] at e4
                dsimp only at e4
                by_cases hl : t0 = t' ∧ ks.length < sizeLine ∧ ks.Nodup
                · rw [if_pos hl] at e4
                  cases e4
                  obtain ⟨rfl, hl, nd⟩ := hl
                  refine A2.run pins s σ H Dn I ⟨τ, ρ, j, ?_⟩
                  rw [e1]
                  intro v H1 τ1 a1 a2 a3
                  have j1 := a2.freeze
                  obtain ⟨v0, hv, hw0⟩ := j1.env i _ e2
                  refine ⟨v0, hv, _, ρ1, k, j1, e3, fun u H2 π sm j2 hu2 => ?_⟩
                  obtain ⟨v0', hv', hw0⟩ := j2.env i _ e2
                  rw [hv] at hv'; cases hv'
                  have fv := a3.freeze.same sm
                  cases t0 with
                  | false =>
                    obtain ⟨kk, rfl, ek⟩ : ∃ kk, k' = [kk] ∧ k.fr.key1 = some kk := by
                      unfold D.key at e5
                      split at e5
                      · rename_i ds' _
                        cases e6 : D.keys ds' with
                        | none => rw [e6] at e5; cases e5
                        | some l => rw [e6] at e5; cases e5
                      · cases e6 : k.fr.key1 with
                        | none => rw [e6] at e5; cases e5
                        | some kk => rw [e6] at e5; cases e5; exact ⟨kk, rfl, rfl⟩
                    have ey := hu2.view.key1 ek
                    cases hw0 with
                    | dK g1 g2 g3 =>
                      obtain ⟨p1, p2⟩ := put_rel (g := gX X) inj1 kk fv nd g3
                      refine ⟨_, _, rfl, by rw [ey]; exact DPut.k g1 (by simpa using hl), ?_⟩
                      refine q _ σ _ (((a1.trans retag_ext).trans (.same sm)).trans (mut_ext g2)) (j2.mut g2 hv ?_)
                      have hd := W.dK (g := gX X) (π := [i + 1]) upd_same g2 (p2.tr (mut_ext g2))
                      rw [← p1] at hd
                      exact hd
                  | true =>
                    obtain ⟨ds', e7, ek⟩ : ∃ ds', k.fr = .tup ds' ∧ D.keys ds' = some k' := by
                      unfold D.key at e5
                      split at e5
                      · rename_i ds' e8
                        cases e6 : D.keys ds' with
                        | none => rw [e6] at e5; cases e5
                        | some l => rw [e6] at e5; cases e5; exact ⟨ds', e8, e6⟩
                      · cases e6 : k.fr.key1 with
                        | none => rw [e6] at e5; cases e5
                        | some kk => rw [e6] at e5; cases e5
                    obtain ⟨bb, vs, rfl, h5, _, f5⟩ := hu2.tup_of e7
                    have ev := f5.keys ek
                    rw [ev] at h5
                    cases hw0 with
                    | dT g1 g2 g3 =>
                      obtain ⟨p1, p2⟩ := put_rel (g := gX X) (m := id) (fun _ _ z => z) k' fv nd g3
                      refine ⟨_, _, rfl, DPut.t g1 h5 (by simpa using hl), ?_⟩
                      refine q _ σ _ (((a1.trans retag_ext).trans (.same sm)).trans (mut_ext g2)) (j2.mut g2 hv ?_)
                      have hd := W.dT (g := gX X) (π := [i + 1]) upd_same g2 (p2.tr (mut_ext g2))
                      exact (congrArg (fun z => W (gX X) _ _ [i + 1] _ (.dct true z _)) p1).mpr hd
                · rw [if_neg hl] at e4; cases e4
            · cases e4
end
end VS
namespace VS
open PySem PySem.Spec PyProof.Rows L2

/-! ### comprehensions -/
def wipeE (ρ : Env) : List Nat → Env
  | [] => ρ
  | i :: r => wipeE (ρ.set i none) r
def restE (ρ0 : Env) : List Nat → Env → Env
  | [], ρ => ρ
  | i :: r, ρ => restE ρ0 r (ρ.set i (match ρ0[i]? with
    | some (some (.fz d)) => some (.fz d)
    | _ => none))
theorem wipeE_len {ρ : Env} : ∀ {l : List Nat}, (wipeE ρ l).length = ρ.length
  | [] => rfl
  | i :: r => by unfold wipeE; rw [wipeE_len (l := r)]; simp
theorem wipeE_at {k : Nat} : ∀ {l : List Nat} {ρ : Env}, (wipeE ρ l)[k]? = if k ∈ l ∧ k < ρ.length then some none else ρ[k]?
  | [], ρ => by simp [wipeE]
  | i :: r, ρ => by
    unfold wipeE
    rw [wipeE_at (l := r)]
    simp only [List.length_set, List.mem_cons]
    by_cases h1 : k ∈ r ∧ k < ρ.length
    · rw [if_pos h1, if_pos ⟨.inr h1.1, h1.2⟩]
    · rw [if_neg h1]
      by_cases h2 : k = i
      · subst h2
        by_cases h3 : k < ρ.length
        · rw [if_pos (And.intro (Or.inl rfl) h3), List.getElem?_set_self h3]
        · rw [if_neg (fun z => h3 z.2), set_big h3]
      · rw [lget (Ne.symm h2), if_neg (fun z => h1 ⟨z.1.resolve_left h2, z.2⟩)]
theorem restE_len {ρ0 : Env} : ∀ {l : List Nat} {ρ : Env}, (restE ρ0 l ρ).length = ρ.length
  | [], _ => rfl
  | i :: r, ρ => by unfold restE; rw [restE_len (l := r)]; simp
theorem restE_at {ρ0 : Env} {k : Nat} {s : S} : ∀ {l : List Nat} {ρ : Env}, (restE ρ0 l ρ)[k]? = some (some s) → (k ∉ l ∧ ρ[k]? = some (some s)) ∨ (k ∈ l ∧ ∃ d, s = .fz d ∧ ρ0[k]? = some (some s))
  | [], ρ, h => .inl ⟨(fun z => nomatch z), h⟩
  | i :: r, ρ, h => by
    unfold restE at h
    rcases restE_at (l := r) h with ⟨h1, h2⟩ | ⟨h1, h2⟩
    · by_cases hk : i = k
      · subst hk
        have e := lset h2
        right
        refine ⟨List.mem_cons_self, ?_⟩
        cases e1 : ρ0[i]? with
        | none => rw [e1] at e; cases e
        | some o =>
          rw [e1] at e
          cases o with
          | none => cases e
          | some s0 =>
            cases s0 with
            | fz d => cases e; exact ⟨d, rfl, rfl⟩
            | lst _ => cases e
            | dct _ _ _ => cases e
            | obj _ _ _ => cases e
      · rw [lget hk] at h2
        exact .inl ⟨fun z => (List.mem_cons.mp z).elim (fun q => hk q.symm) h1, h2⟩
    · exact .inr ⟨List.mem_cons_of_mem _ h1, h2⟩
theorem wipe_in {σ : L2.St} {k : Nat} : ∀ {l : List Nat}, k ∈ l → k < σ.length → (L2.wipe σ l)[k]? = some none
  | i :: r, h, hk => by
    show ((L2.wipe σ r).set i none)[k]? = some none
    by_cases e : i = k
    · subst e; exact List.getElem?_set_self (by rw [wipe_length]; exact hk)
    · rw [lget e]
      exact wipe_in ((List.mem_cons.mp h).resolve_left fun z => e z.symm) hk
theorem restE_get {ρ0 : Env} {k : Nat} : ∀ {l : List Nat} {ρ : Env}, (restE ρ0 l ρ)[k]? = if k ∈ l ∧ k < ρ.length then some (match ρ0[k]? with
    | some (some (.fz d)) => some (.fz d)
    | _ => none) else ρ[k]?
  | [], ρ => by simp [restE]
  | i :: r, ρ => by
    unfold restE
    rw [restE_get (l := r)]
    simp only [List.length_set, List.mem_cons]
    by_cases h1 : k ∈ r ∧ k < ρ.length
    · rw [if_pos h1, if_pos ⟨.inr h1.1, h1.2⟩]
    · rw [if_neg h1]
      by_cases h2 : k = i
      · subst h2
        by_cases h3 : k < ρ.length
        · rw [if_pos (And.intro (Or.inl rfl) h3), List.getElem?_set_self h3]
        · rw [if_neg (fun z => h3 z.2), set_big h3]
      · rw [lget (Ne.symm h2), if_neg (fun z => h1 ⟨z.1.resolve_left h2, z.2⟩)]
theorem restE_wipe {ρ0 ρ : Env} {l : List Nat} (_h : ρ.length = ρ0.length) : restE ρ0 l (wipeE ρ l) = restE ρ0 l ρ := by
  refine List.ext_getElem? fun k => ?_
  rw [restE_get, restE_get, wipeE_len, wipeE_at]
  by_cases h1 : k ∈ l ∧ k < ρ.length
  · rw [if_pos h1, if_pos h1]
  · rw [if_neg h1, if_neg h1, if_neg h1]
theorem upd_eq {H : Hp} {a : Addr} {o : HO} (h : H a = some o) : upd H a o = H := by
  funext b
  unfold upd
  split
  · rename_i e; rw [e, h]
  · rfl
def lcL (own : List Nat) (a : TAs) (b : TB) (t : TV) : List D → List D → Env → R (List D × Env)
  | [], acc, ρ => .ok (acc, ρ)
  | d :: ds, acc, ρ => match a d (wipeE ρ own) with
    | none => .bad
    | some ρ1 => (b ρ1).th fun k ρ2 => if k then (t ρ2).th fun s ρ3 => (if acc.length < sizeLine then lcL own a b t ds (acc ++ [s.fr]) ρ3 else .bad) else lcL own a b t ds acc ρ2
def bYes : TB := fun ρ => .ok (true, ρ)
def vLc (own : List Nat) (it : TIt) (a : TAs) (b : TB) (t : TV) : TV := fun ρ => (it ρ).th fun ds ρ1 => match lcL own a b t ds [] ρ1 with
  | .ok (acc, ρ2) => .ok (.lst acc, restE ρ1 own ρ2)
  | _ => .bad
/-- D's tag becomes q -/
def tagD (D : Addr) (q : Option (List Nat)) (τ : Tg) : Tg := fun a => if a = D then q else τ a
theorem tagD_eq {D : Addr} {q} {τ : Tg} : tagD D q τ D = q := if_pos rfl
theorem tagD_ne {D a : Addr} {q} {τ : Tg} (h : a ≠ D) : tagD D q τ a = τ a := if_neg h
section
variable {g : Gm} {c : JC} {τ τ' : Tg} {σ : L2.St} {H H' : Hp} {ρ ρ' : Env}
theorem J.wipe {l : List Nat} (j : J g c τ σ H ρ) (hl : ∀ i ∈ l, i ∉ c.mp) : J g c τ (L2.wipe σ l) H (wipeE ρ l) :=
  j.turn (by rw [wipeE_len, wipe_length]; exact j.len) j.dom .refl (fun _ => Iff.rfl) (fun _ _ => rfl) (fun k s e => by
    rw [wipeE_at] at e
    by_cases hk : k ∈ l ∧ k < ρ.length
    · rw [if_pos hk] at e; cases e
    · rw [if_neg hk] at e
      refine .inl ⟨e, wipe_out fun z => hk ⟨z, (List.getElem?_eq_some_iff.mp e).1⟩, fun a r o t e => ⟨t, e⟩⟩) fun k hk => wipe_out fun z => hl k z hk
/-- the block's own entry: D is guarded -/
theorem J.block {D : Addr} (j : J g c τ σ H ρ) (hD : τ D = some [0]) : J g ⟨tagD D (some []) τ, H, c.mp, c.vs⟩ (tagD D (some []) τ) σ H ρ where
  len := j.len
  dom := fun a q e => by
    by_cases h : a = D
    · subst h; exact j.dom a _ hD
    · rw [tagD_ne h] at e; exact j.dom a q e
  ext := .refl
  grd := fun _ => Iff.rfl
  grh := fun _ _ => rfl
  env := fun i s e => by
    obtain ⟨v, h1, h2⟩ := j.env i s e
    exact ⟨v, h1, h2.tr (fun a o t e => ⟨by rw [tagD_ne (fun z => by rw [z, hD] at t; cases t)]; exact t, e⟩) fun a r o t e => ⟨by rw [tagD_ne (fun z => by rw [z, hD] at t; cases t)]; exact t, e⟩⟩
  pin := j.pin
theorem J.unblock {D : Addr} {σ' : L2.St} {vsD vs' : List V} (j : J g c τ σ H ρ) (hD : τ D = some [0]) (j' : J g ⟨tagD D (some []) τ, H, c.mp, c.vs⟩ τ' σ' H' ρ') (hH : H D = some (.lst vsD)) :
    let H2 := upd H' D (.lst vs')
    let τ2 := tagD D (some [0]) τ'
    Ext τ H τ2 H2 ∧ J g c τ2 σ' H2 ρ' := by
  intro H2 τ2
  have tD : τ' D = some [] := (j'.grd D).mpr tagD_eq
  have e1 : Ext τ H τ2 H2 := fun a o t e => by
    have ha : a ≠ D := fun z => by rw [z, hD] at t; cases t
    obtain ⟨x, y⟩ := j'.ext a o (by show tagD D (some []) τ a = none; rw [tagD_ne ha]; exact t) e
    exact ⟨by show tagD D (some [0]) τ' a = none; rw [tagD_ne ha]; exact x, by show upd H' D _ a = _; rw [upd_ne ha]; exact y⟩
  have e2 : Ext τ' H' τ2 H2 := fun a o t e => by
    have ha : a ≠ D := fun z => by rw [z, tD] at t; cases t
    exact ⟨by show tagD D (some [0]) τ' a = none; rw [tagD_ne ha]; exact t, by show upd H' D _ a = _; rw [upd_ne ha]; exact e⟩
  refine ⟨e1, j'.len, fun a q e => ?_, j.ext.trans e1, fun a => ?_, fun a e => ?_, fun i s e => ?_, j'.pin⟩
  · by_cases h : a = D
    · subst h; exact ⟨_, upd_same⟩
    · have e : τ' a = some q := by
        have : tagD D (some [0]) τ' a = some q := e
        rw [tagD_ne h] at this; exact this
      obtain ⟨o, z⟩ := j'.dom a q e
      exact ⟨o, by show upd H' D _ a = _; rw [upd_ne h]; exact z⟩
  · by_cases h : a = D
    · subst h
      constructor
      · intro z
        have : tagD a (some [0]) τ' a = some [] := z
        rw [tagD_eq] at this; cases this
      · intro z
        have := (j.grd a).mpr z
        rw [hD] at this; cases this
    · have q : τ2 a = τ' a := tagD_ne h
      rw [q, j'.grd a, ← j.grd a]
      show tagD D (some []) τ a = some [] ↔ _
      rw [tagD_ne h]
  · have hg := (j.grd a).mpr e
    have h : a ≠ D := fun z => by rw [z, hD] at hg; cases hg
    show upd H' D _ a = _
    rw [upd_ne h, j'.grh a (by show tagD D (some []) τ a = some []; rw [tagD_ne h]; exact hg)]
    exact j.grh a e
  · obtain ⟨v, h1, h2⟩ := j'.env i s e
    refine ⟨v, h1, h2.tr e2 fun a r o t e => ?_⟩
    have ha : a ≠ D := fun z => by rw [z, tD] at t; cases t
    exact ⟨by show tagD D (some [0]) τ' a = _; rw [tagD_ne ha]; exact t, by show upd H' D _ a = _; rw [upd_ne ha]; exact e⟩
/-- behind the block -/
theorem J.rest {l : List Nat} {ρ0 : Env} {τ0 : Tg} {H0 : Hp} (j0 : J g c τ0 σ H0 ρ0) (ex : Ext τ0 H0 τ H) (j : J g c τ (L2.wipe σ l) H ρ) (hl : ∀ i ∈ l, i ∉ c.mp) : J g c τ σ H (restE ρ0 l ρ) where
  len := by rw [restE_len, j.len, wipe_length]
  dom := j.dom
  ext := j.ext
  grd := j.grd
  grh := j.grh
  env := fun k s e => by
    rcases restE_at e with ⟨h1, h2⟩ | ⟨h1, d, rfl, h2⟩
    · obtain ⟨v, a, b⟩ := j.env k s h2
      exact ⟨v, by rw [wipe_out h1] at a; exact a, b⟩
    · obtain ⟨v, a, b⟩ := j0.env k _ h2
      exact ⟨v, a, .fz (b.of_fz.tr ex)⟩
  pin := fun k hk v e => by
    have := j.pin k hk v e
    rw [wipe_out fun z => hl k z hk] at this
    exact this
end
abbrev wNo : WX := fun _ _ _ _ => False
section
variable {X : Cx} {c : JC} {w : WX} {pos : Pos}
theorem lc_vs {own sl : List Nat} {it : TIt} {a : TAs} {b : TB} {t : TV} (hd : ∀ i ∈ own, i ∉ c.mp) (hsl : ∀ i ∈ sl, i ∈ own) (wi : TI) (g : TG) (tt : TT) (te : TE) (hwi : ∀ σ H Q, tI (gX X) c w it σ H Q → wi σ H Q)
    (hg : ∀ (τ' : Tg) (H' : Hp) v σ H Q, tG (gX X) ⟨τ', H', c.mp, c.vs⟩ sl a v σ H Q → g v σ H Q) (ht : ∀ (τ' : Tg) (H' : Hp) σ H Q, tTV (gX X) ⟨τ', H', c.mp, c.vs⟩ wNo b σ H Q → tt σ H Q) (he : ∀ (τ' : Tg) (H' : Hp) σ H Q, tV (gX X) ⟨τ', H', c.mp, c.vs⟩ wNo t σ H Q → te σ H Q)
    (σ : L2.St) (H : Hp) (Q : VK) (z : tV (gX X) c w (vLc own it a b t) σ H Q) : tLc wi g tt te own σ H Q := by
  obtain ⟨τ0, ρ0, j0, q⟩ := z
  refine hwi σ H _ ⟨τ0, ρ0, j0, ?_⟩
  unfold vLc at q
  cases e0 : it ρ0 with
  | bad => rw [e0] at q; exact q
  | exc x ρ' => rw [e0] at q; exact q
  | ok z =>
    obtain ⟨ds, ρ1⟩ := z
    rw [e0] at q
    dsimp only [R.th] at q
    intro Jt H1 τ1 ex1 j1 hw D hDn
    have tD : τ1 D = none := j1.free hDn
    have neD : ∀ {x o}, H1 x = some o → x ≠ D := fun {x o} e z => by rw [z, hDn] at e; cases e
    -- the list is laid: it is on its way
    have exD : Ext τ1 H1 (tagD D (some [0]) τ1) (upd H1 D (.lst [])) := fun x o tx e => ⟨by rw [tagD_ne (neD e)]; exact tx, by rw [upd_ne (neD e)]; exact e⟩
    have jD : J (gX X) c (tagD D (some [0]) τ1) σ (upd H1 D (.lst [])) ρ1 := by
      refine j1.turn j1.len (fun x q e => ?_) exD (fun x => ?_) (fun x e => ?_) (fun k s e => .inl ⟨e, rfl, fun x r o tx e => ⟨by rw [tagD_ne (neD e)]; exact tx, by rw [upd_ne (neD e)]; exact e⟩⟩) fun _ _ => rfl
      · by_cases h : x = D
        · subst h; exact ⟨_, upd_same⟩
        · rw [tagD_ne h] at e
          obtain ⟨o, z⟩ := j1.dom x q e
          exact ⟨o, by rw [upd_ne h]; exact z⟩
      · by_cases h : x = D
        · subst h
          rw [tagD_eq, tD]
          exact ⟨(fun z => nomatch z), (fun z => nomatch z)⟩
        · rw [tagD_ne h]
      · obtain ⟨o, z⟩ := j1.dom x [] e
        rw [upd_ne (neD z)]
    refine ⟨fun i m H2 => m = ds.length - i ∧ ∃ τ ρ acc vsD, J (gX X) c τ (L2.wipe σ own) H2 (wipeE ρ own) ∧ Ext τ1 H1 τ H2 ∧ τ D = some [0] ∧ H2 D = some (.lst vsD) ∧ Fs (gX X) τ H2 vsD acc ∧ (∃ x, x = lcL own a b t (ds.drop i) acc ρ ∧ x = lcL own a b t ds [] ρ1),
      ⟨_, rfl, tagD D (some [0]) τ1, ρ1, [], [], jD.wipe hd, exD, tagD_eq, upd_same, .nil, _, rfl, rfl⟩, ?_⟩
    rintro i m H2 ⟨rfl, τ, ρ, acc, vsD, j, ex, hD, hHD, fD, x, hx, hx2⟩
    obtain ⟨h1, h2⟩ := hw i τ H2 ex j.dom
    cases e1 : ds[i]? with
    | none =>
      left
      have hl : ds.length ≤ i := List.getElem?_eq_none_iff.mp e1
      refine ⟨h2 e1, ?_⟩
      rw [List.drop_eq_nil_of_le hl] at hx
      rw [← hx2, hx] at q
      unfold lcL at q
      have jr := J.rest (l := own) j1 ex j hd
      have er : restE ρ1 own (wipeE ρ own) = restE ρ1 own ρ := restE_wipe (by rw [← wipeE_len (l := own), j.len, wipe_length, ← j1.len])
      rw [er] at jr
      exact q _ H2 τ (ex1.trans ex) jr (.lst hHD hD fD)
    | some d =>
      right
      obtain ⟨go, yl⟩ := h1 d e1
      obtain ⟨hlt, ed⟩ := List.getElem?_eq_some_iff.mp e1
      rw [List.drop_eq_getElem_cons hlt, ed] at hx
      unfold lcL at hx
      have nb : x ≠ .bad := fun z => by rw [← hx2, z] at q; exact q
      have nx : ∀ y ρ', x ≠ .exc y ρ' := fun y ρ' z => by rw [← hx2, z] at q; exact q
      refine ⟨go, fun H3 => ∃ m', m' < ds.length - i ∧ (m' = ds.length - (i + 1) ∧ ∃ τ ρ acc vsD, J (gX X) c τ (L2.wipe σ own) H3 (wipeE ρ own) ∧ Ext τ1 H1 τ H3 ∧ τ D = some [0] ∧ H3 D = some (.lst vsD) ∧ Fs (gX X) τ H3 vsD acc ∧ (∃ x, x = lcL own a b t (ds.drop (i + 1)) acc ρ ∧ x = lcL own a b t ds [] ρ1)), fun H3 z => z, fun y H3 hy => ?_⟩
      obtain ⟨sm, f⟩ := yl y H3 hy
      have j3 := (j.same sm).block hD
      have tb : Ext τ H2 (tagD D (some []) τ) H3 := fun z o tz e => ⟨by rw [tagD_ne (fun q => by rw [q, hD] at tz; cases tz)]; exact tz, sm z o e⟩
      cases e2 : a d (wipeE ρ own) with
      | none => rw [e2] at hx; exact absurd hx nb
      | some ρ2 =>
        rw [e2] at hx
        dsimp only at hx
        have fD3 : F (gX X) (tagD D (some []) τ) H3 y d := f.tr fun z o tz e => ⟨by rw [tagD_ne (fun q => by rw [q, hD] at tz; cases tz)]; exact tz, e⟩
        refine hg (tagD D (some []) τ) H3 y _ H3 _ ⟨_, wipeE ρ own, d, ρ2, j3, fD3, e2, fun σ2 al j4 => ⟨?_, ?_⟩⟩
        · refine List.ext_getElem? fun k => ?_
          by_cases hk : k ∈ own
          · by_cases hkl : k < σ.length
            · rw [wipe_in hk (by rw [al.len, wipe_length]; exact hkl), wipe_in hk hkl]
            · rw [List.getElem?_eq_none (by rw [wipe_length, al.len, wipe_length]; omega), List.getElem?_eq_none (by rw [wipe_length]; omega)]
          · rw [wipe_out hk, wipe_out hk, al.at_ k fun z => hk (hsl k z), wipe_out hk]
        · have wip : L2.wipe σ2 own = L2.wipe σ own := by
            refine List.ext_getElem? fun k => ?_
            by_cases hk : k ∈ own
            · by_cases hkl : k < σ.length
              · rw [wipe_in hk (by rw [al.len, wipe_length]; exact hkl), wipe_in hk hkl]
              · rw [List.getElem?_eq_none (by rw [wipe_length, al.len, wipe_length]; omega), List.getElem?_eq_none (by rw [wipe_length]; omega)]
            · rw [wipe_out hk, wipe_out hk, al.at_ k fun z => hk (hsl k z), wipe_out hk]
          refine ht _ _ _ _ _ ⟨_, ρ2, j4, ?_⟩
          cases e3 : b ρ2 with
          | bad => rw [e3] at hx; exact absurd hx nb
          | exc y ρ' => rw [e3] at hx; exact absurd hx (nx y ρ')
          | ok z =>
            obtain ⟨k, ρ3⟩ := z
            rw [e3] at hx
            dsimp only [R.th] at hx
            intro H4 τ4 ex4 j5
            -- a turn's end: back to the def's entry
            have fin : ∀ {τ5 H5 ρ5 vs' acc'}, Ext (tagD D (some []) τ) H3 τ5 H5 → J (gX X) ⟨tagD D (some []) τ, H3, c.mp, c.vs⟩ τ5 σ2 H5 ρ5 → Fs (gX X) τ5 H5 vs' acc' → x = lcL own a b t (ds.drop (i + 1)) acc' ρ5 →
                ∃ τ ρ acc vsD, J (gX X) c τ (L2.wipe σ own) (upd H5 D (.lst vs')) (wipeE ρ own) ∧ Ext τ1 H1 τ (upd H5 D (.lst vs')) ∧ τ D = some [0] ∧ (upd H5 D (.lst vs')) D = some (.lst vsD) ∧ Fs (gX X) τ (upd H5 D (.lst vs')) vsD acc ∧ (∃ x, x = lcL own a b t (ds.drop (i + 1)) acc ρ ∧ x = lcL own a b t ds [] ρ1) := fun {τ5 H5 ρ5 vs' acc'} ex5 j6 f5 hx5 => by
              obtain ⟨u1, u2⟩ := (j.same sm).unblock (vs' := vs') hD j6 (sm D _ hHD)
              have u3 := u2.wipe hd
              rw [wip] at u3
              have tD5 : τ5 D = some [] := (j6.grd D).mpr tagD_eq
              refine ⟨_, ρ5, acc', vs', u3, (ex.trans (.same sm)).trans u1, tagD_eq, upd_same, f5.tr fun z o tz e => ?_, x, hx5, hx2⟩
              have hz : z ≠ D := fun q => by rw [q, tD5] at tz; cases tz
              exact ⟨by rw [tagD_ne hz]; exact tz, by rw [upd_ne hz]; exact e⟩
            have hHD3 := sm D _ hHD
            cases k with
            | false =>
              rw [if_neg Bool.false_ne_true]
              simp only [Bool.false_eq_true, if_false] at hx
              have hD4 : H4 D = some (.lst vsD) := by
                rw [j5.grh D tagD_eq]; exact hHD3
              have := fin (vs' := vsD) ex4 j5 ((fD.tr tb).tr ex4) hx
              rw [show upd H4 D (.lst vsD) = H4 from upd_eq hD4] at this
              exact ⟨_, by omega, rfl, this⟩
            | true =>
              rw [if_pos rfl]
              simp only [if_true] at hx
              refine he _ _ _ _ _ ⟨τ4, ρ3, j5, ?_⟩
              cases e4 : t ρ3 with
              | bad => rw [e4] at hx; exact absurd hx nb
              | exc y ρ' => rw [e4] at hx; exact absurd hx (nx y ρ')
              | ok z =>
                obtain ⟨s, ρ4⟩ := z
                rw [e4] at hx
                dsimp only at hx
                intro v H5 τ5 ex5 j6 hwv
                by_cases hl : acc.length < sizeLine
                · rw [if_pos hl] at hx
                  have hD5 : H5 D = some (.lst vsD) := by
                    rw [j6.grh D tagD_eq]; exact hHD3
                  refine ⟨vsD, hD5, by rw [fD.len]; exact hl, _, by omega, rfl, ?_⟩
                  have ex45 := (ex4.trans ex5).trans (retag_ext (k := 0) (f := fun _ => none))
                  exact fin (vs' := vsD ++ [v]) ex45 j6.freeze (((fD.tr tb).tr ex45).app (.cons hwv.freeze .nil)) hx
                · rw [if_neg hl] at hx; exact absurd hx nb
end
end VS
namespace VS
open PySem PySem.Spec PyProof.Rows L2

section
variable {X : Cx} {c : JC} {w : WX} {pos : Pos}
theorem ts_nil : PTs X [] (tTV (gX X) c w bYes) := by
  have h := (pts_nil (X := X)).run
  exact ⟨fun pins s σ H Q I ⟨τ, ρ, j, q⟩ => h pins s σ H Q I (q H τ .refl j)⟩
theorem ts_one {e : Expr} {t : TB} (h : PT X e (tTV (gX X) c w t)) : PTs X [e] (tTV (gX X) c w t) := pts_one h
theorem v_lc {elt tg iter : Expr} {ifs : List Expr} {scope : Scope} {own : List (Str × Nat)} {sl : List Nat} {it : TIt} {a : TAs} {b : TB} {t : TV} (hc : X.calm = true) (hN : X.N.Nodup) (hi : PI X tg iter (tI (gX X) c w it)) (ok : BlkOk X.N X.env.scope scope own)
    (hg : ∀ (s : Shared) (H : Hp) (C : Addr) (cl : List (Str × Addr)) (fp : List Addr) (τ' : Tg) (H' : Hp), PG (X.blk s H scope (compEnvC scope cl C X.env) fp) tg (tG (gX X) ⟨τ', H', c.mp, c.vs⟩ sl a))
    (ht : ∀ (s : Shared) (H : Hp) (C : Addr) (cl : List (Str × Addr)) (fp : List Addr) (τ' : Tg) (H' : Hp), PTs (X.blk s H scope (compEnvC scope cl C X.env) fp) ifs (tTV (gX X) ⟨τ', H', c.mp, c.vs⟩ wNo b))
    (he : ∀ (s : Shared) (H : Hp) (C : Addr) (cl : List (Str × Addr)) (fp : List Addr) (τ' : Tg) (H' : Hp), PE (X.blk s H scope (compEnvC scope cl C X.env) fp) elt (tV (gX X) ⟨τ', H', c.mp, c.vs⟩ wNo t))
    (hd : ∀ i ∈ own.map (·.2), i ∉ c.mp := by exact of_decide_eq_true rfl) (hsl : ∀ i ∈ sl, i ∈ own.map (·.2) := by decide) (hs : ∀ x, foldedSetIterable iter X.env x = pure x := by intro _; rfl) : PE X (.ListComp elt [⟨tg, iter, ifs, 0⟩] scope pos) (tV (gX X) c w (vLc (own.map (·.2)) it a b t)) := by
  let g : TG := fun v σ H Q => ∃ τ' H', tG (gX X) ⟨τ', H', c.mp, c.vs⟩ sl a v σ H Q
  let tt : TT := fun σ H Q => ∃ τ' H', tTV (gX X) ⟨τ', H', c.mp, c.vs⟩ wNo b σ H Q
  let te : TE := fun σ H Q => ∃ τ' H', tV (gX X) ⟨τ', H', c.mp, c.vs⟩ wNo t σ H Q
  refine PEw (pe_lc hc hN hi ok (g := g) (tt := tt) (te := te) (fun s H C cl fp => ?_) (fun s H C cl fp => ?_) (fun s H C cl fp => ?_) hs) (lc_vs hd hsl _ g tt te (fun _ _ _ h => h) (fun τ' H' _ _ _ _ h => ⟨τ', H', h⟩) (fun τ' H' _ _ _ h => ⟨τ', H', h⟩) fun τ' H' _ _ _ h => ⟨τ', H', h⟩)
  · exact ⟨fun pins s1 σ H1 x u Q I r ⟨τ', H', q⟩ => (hg s H C cl fp τ' H').run pins s1 σ H1 x u Q I r q⟩
  · exact ⟨fun pins s1 σ H1 Q I ⟨τ', H', q⟩ => (ht s H C cl fp τ' H').run pins s1 σ H1 Q I q⟩
  · exact ⟨fun pins s1 σ H1 Q I ⟨τ', H', q⟩ => (he s H C cl fp τ' H').run pins s1 σ H1 Q I q⟩
/-- y = [..] on one line -/
theorem s_setLc {i : Nat} {y : Str} {py spos : Pos} {elt tg iter : Expr} {ifs : List Expr} {scope : Scope} {own : List (Str × Nat)} {sl : List Nat} {it : TIt} {a : TAs} {b : TB} {t : TV} (hc : X.calm = true) (hN : X.N.Nodup) (hy : X.N[i]? = some y) (hyl : X.env.scope.names.lookup y = some .local)
    (hsw : swapsWith (.ListComp elt [⟨tg, iter, ifs, 0⟩] scope pos) (some (.Name y py)) spos.line X.env = pure true) (hi : PI X tg iter (tI (gX X) c w it)) (ok : BlkOk X.N X.env.scope scope own)
    (hg : ∀ (s : Shared) (H : Hp) (C : Addr) (cl : List (Str × Addr)) (fp : List Addr) (τ' : Tg) (H' : Hp), PG (X.blk s H scope (compEnvC scope cl C X.env) fp) tg (tG (gX X) ⟨τ', H', c.mp, c.vs⟩ sl a))
    (ht : ∀ (s : Shared) (H : Hp) (C : Addr) (cl : List (Str × Addr)) (fp : List Addr) (τ' : Tg) (H' : Hp), PTs (X.blk s H scope (compEnvC scope cl C X.env) fp) ifs (tTV (gX X) ⟨τ', H', c.mp, c.vs⟩ wNo b))
    (he : ∀ (s : Shared) (H : Hp) (C : Addr) (cl : List (Str × Addr)) (fp : List Addr) (τ' : Tg) (H' : Hp), PE (X.blk s H scope (compEnvC scope cl C X.env) fp) elt (tV (gX X) ⟨τ', H', c.mp, c.vs⟩ wNo t))
    (hp : i ∉ c.mp := by exact of_decide_eq_true rfl) (hd : ∀ i ∈ own.map (·.2), i ∉ c.mp := by exact of_decide_eq_true rfl) (hsl : ∀ i ∈ sl, i ∈ own.map (·.2) := by decide) (hs : ∀ x, foldedSetIterable iter X.env x = pure x := by intro _; rfl) :
    PS X (.Assign [.Name y py] (.ListComp elt [⟨tg, iter, ifs, 0⟩] scope pos) spos) (tS (gX X) c w (sSet i (vLc (own.map (·.2)) it a b t))) := by
  let g : TG := fun v σ H Q => ∃ τ' H', tG (gX X) ⟨τ', H', c.mp, c.vs⟩ sl a v σ H Q
  let tt : TT := fun σ H Q => ∃ τ' H', tTV (gX X) ⟨τ', H', c.mp, c.vs⟩ wNo b σ H Q
  let te : TE := fun σ H Q => ∃ τ' H', tV (gX X) ⟨τ', H', c.mp, c.vs⟩ wNo t σ H Q
  refine st_set (ps_setLc hc hN hy hyl hsw hi ok (g := g) (tt := tt) (te := te) (fun s H C cl fp => ?_) (fun s H C cl fp => ?_) (fun s H C cl fp => ?_) hs) (lc_vs hd hsl _ g tt te (fun _ _ _ h => h) (fun τ' H' _ _ _ _ h => ⟨τ', H', h⟩) (fun τ' H' _ _ _ h => ⟨τ', H', h⟩) fun τ' H' _ _ _ h => ⟨τ', H', h⟩) hp
  · exact ⟨fun pins s1 σ H1 x u Q I r ⟨τ', H', q⟩ => (hg s H C cl fp τ' H').run pins s1 σ H1 x u Q I r q⟩
  · exact ⟨fun pins s1 σ H1 Q I ⟨τ', H', q⟩ => (ht s H C cl fp τ' H').run pins s1 σ H1 Q I q⟩
  · exact ⟨fun pins s1 σ H1 Q I ⟨τ', H', q⟩ => (he s H C cl fp τ' H').run pins s1 σ H1 Q I q⟩
end
end VS
namespace VS
open PySem PySem.Spec PyProof.Rows L2

/-! ### raise -/
/-- a class of the text's that stands under ValueError, without __init__ -/
structure ExK (K : PySem.W.Frag) (mg : Str → Option Value) (x : Str) : Prop where
  ex : ∃ C, mg x = some (.ref C) ∧ PySem.W.excIn K C [.type "ValueError", .type "Exception", .type "BaseException", .type "object"] "ValueError.__new__" = true ∧ PySem.W.keepIn K (.ref C) = true ∧
    PySem.W.subIn K (.ref C) (.type "BaseException") = some true ∧ PySem.W.typeIn K (.ref C) = some (.type "type")
section
variable {X : Cx} {c : JC} {w : WX} {pos : Pos}
def sRaise (x : Str) : TSt := fun ρ => .exc { c := x } ρ
theorem s_raise {x m : Str} {n : Nat} {p p2 p3 : Pos} (hc : X.calm = true) (tk : L2N.Takes X w) (E : ExK X.K X.mg x) (hg : Gl X x) (hdb : (x == ("__debug__" : Str)) = false := by decide) : PS X (.Raise (some (.Call (.Name x p) [.Constant (.str m) n p2] [] p3)) none pos) (tS (gX X) c w (sRaise x)) := by
  obtain ⟨C, h1, h2, h3, h4, h5⟩ := E.ex
  refine PSw (L2N.ps_raise hc tk (L2N.pmk_own PySem.F.excBase_ValueError h2 h1 h3 (raises_own h4 h5) hg hdb)) fun Dn σ H q => ?_
  obtain ⟨τ, ρ, j, q⟩ := tS_iff.mp q
  exact q (.ref C) none τ σ H .refl j ⟨C, rfl, by show (match X.mg x with | some (.ref C) => some C | _ => none) = some C; rw [h1], .inl ⟨rfl, rfl, rfl⟩⟩
theorem ss_never {rest : List Stmt} : True := trivial

/-! ### try -/
/-- a clause: which classes it takes, its suite -/
abbrev Hd := (Str → Option Bool) × TSt
def pickH : List Hd → Str → Option (Option TSt)
  | [], _ => some none
  | (m, t) :: r, x => match m x with
    | none => none
    | some true => some (some t)
    | some false => pickH r x
def sTry (t : TSt) (hs : List Hd) : TSt := fun ρ => match t ρ with
  | .exc x ρ' => (match pickH hs x.c with
    | none => .bad
    | some none => .exc x ρ'
    | some (some u) => (match u ρ' with
      | .exc _ _ => .bad
      | o => o))
  | o => o
/-- the clause's class c takes just those that m tells -/
def TakesC (g : Gm) (K : PySem.W.Frag) (m : Str → Option Bool) (cv : Value) : Prop := ∀ (x : Str) (C : Addr) (b : Bool), g.cls x = some C → m x = some b → PySem.W.exmOne K (.ref C) cv = some b
inductive Hds (X : Cx) (c : JC) : List ExceptHandler → List Hd → Prop
  | nil : Hds X c [] []
  | cons {x : Str} {cv : Value} {m : Str → Option Bool} {t : TSt} {b₀ : Stmt} {suite : List Stmt} {np pos' : Pos} {hds : List ExceptHandler} {l : List Hd} (hc : Names X x cv) (hm : TakesC (gX X) X.K m cv)
      (hsu : ∀ (a : Addr) (oe : Obj) (pn : List (Addr × Obj)), PSs (X.suite a ((a, oe) :: pn)) (b₀ :: suite) (tS (gX X) c wNo t)) (r : Hds X c hds l) : Hds X c (.ExceptHandler (some (.Name x np)) none (b₀ :: suite) pos' :: hds) ((m, t) :: l)
theorem hds_ok {hds : List ExceptHandler} {l : List Hd} (h : Hds X c hds l) : ∃ L : List (Value × (Addr → Value → Option Addr → TS)), L2N.HdsOk X hds L ∧ ∀ (Dn : Ends) (x : XD) (ρ' : Env) (cls : Value) (d : Option Addr) (τ : Tg) (σ : L2.St) (H : Hp), J (gX X) c τ σ H ρ' → XR (gX X) τ H x cls d →
    (match pickH l x.c with
      | none => False
      | some none => w cls d σ H
      | some (some u) => After (gX X) c wNo Dn τ H (u ρ')) → wMany X.K w Dn L cls d σ H := by
  induction h with
  | nil => exact ⟨[], .nil, fun Dn x ρ' cls d τ σ H j xr q => q⟩
  | @cons y cv m t b₀ suite np pos' hds l hc hm hsu r ih =>
    obtain ⟨L, h1, h2⟩ := ih
    refine ⟨(cv, fun _ _ _ => tS (gX X) c wNo t) :: L, .cons hc (fun a oe cls d pn _ _ => hsu a oe pn) h1, fun Dn x ρ' cls d τ σ H j xr q => ?_⟩
    unfold pickH at q
    obtain ⟨C, rfl, hC, hrest⟩ := id xr
    cases e : m x.c with
    | none => rw [e] at q; exact q.elim
    | some b =>
      rw [e] at q
      refine ⟨b, hm x.c C b hC e, fun hb a na => ?_, fun hb => ?_⟩
      · subst hb
        exact tS_iff.mpr ⟨τ, ρ', j, q⟩
      · subst hb
        exact h2 Dn x ρ' _ d τ σ H j xr q
theorem s_try {body : List Stmt} {h₀ : ExceptHandler} {hds : List ExceptHandler} {l : List Hd} {t : TSt} (hs : X.stack = X.env :: X.outer) (hf : X.env.frame = some X.env.locals) (tk : L2N.Takes X w)
    (hb : ∀ (W' : WX) (pn : List (Addr × Obj)) (xe : Value → Shared → Prop), L2N.Takes (X.tr pn xe) W' → PassesOwn (model X.prog X.w) X.A X.env xe → PSs (X.tr pn xe) body (tS (gX X) c W' t))
    (hh : Hds X c (h₀ :: hds) l) : PS X (.Try body (h₀ :: hds) [] [] pos) (tS (gX X) c w (sTry t l)) := by
  obtain ⟨L, h1, h2⟩ := hds_ok (w := w) hh
  refine PSw (L2N.ps_try_many hs hf tk hb h1) fun Dn σ H q => ?_
  obtain ⟨τ, ρ, j, q⟩ := tS_iff.mp q
  refine tS_iff.mpr ⟨τ, ρ, j, ?_⟩
  unfold sTry at q
  cases e : t ρ with
  | bad => rw [e] at q; exact q
  | nx ρ' => rw [e] at q; exact q
  | rt s ρ' => rw [e] at q; exact q
  | bk ρ' => rw [e] at q; exact q
  | ct ρ' => rw [e] at q; exact q
  | exc x ρ' =>
    rw [e] at q
    intro cls d τ' σ' H' ex j' xr
    refine h2 Dn x ρ' cls d τ' σ' H' j' xr ?_
    dsimp only at q
    cases e2 : pickH l x.c with
    | none => rw [e2] at q; exact q
    | some o =>
      rw [e2] at q
      cases o with
      | none => exact q cls d τ' σ' H' ex j' xr
      | some u =>
        dsimp only at q ⊢
        have q2 := After.ext q ex
        cases e3 : u ρ' with
        | exc y ρ2 => rw [e3] at q2; exact q2.elim
        | bad => rw [e3] at q2; exact q2
        | nx ρ2 => rw [e3] at q2; exact q2
        | rt s ρ2 => rw [e3] at q2; exact q2
        | bk ρ2 => rw [e3] at q2; exact q2
        | ct ρ2 => rw [e3] at q2; exact q2
/-- try: .. except x as n: suite; the suite may ask which error it is: what it does hangs on that -/
def sTryAs (t : TSt) (i : Nat) (m : Str → Option Bool) (u : XD → TSt) : TSt := fun ρ => match t ρ with
  | .exc x ρ' => (match m x.c with
    | none => .bad
    | some false => .exc x ρ'
    | some true => if i < ρ'.length then (match u x (ρ'.set i none) with
      | .nx ρ2 => .nx (ρ2.set i none)
      | .bk ρ2 => .bk (ρ2.set i none)
      | .ct ρ2 => .ct (ρ2.set i none)
      | .exc _ _ => .bad
      | o => o) else .bad)
  | o => o
/-- an unknown thing in the slot i -/
theorem J.forget {g : Gm} {τ : Tg} {σ : L2.St} {H : Hp} {ρ : Env} {i : Nat} {z : Option V} (j : J g c τ σ H ρ) (hp : i ∉ c.mp) : J g c τ (σ.set i z) H (ρ.set i none) :=
  j.turn (by simpa using j.len) j.dom .refl (fun _ => Iff.rfl) (fun _ _ => rfl) (fun k s e => by
    by_cases hk : i = k
    · subst hk; exact nomatch lset e
    · exact .inl ⟨by rw [lget hk] at e; exact e, lget hk, fun a r o t e => ⟨t, e⟩⟩) fun k hk => lget fun z => hp (z ▸ hk)
/-- the suite's entry: the slot i is the error's -/
def JC.at (c : JC) (i : Nat) (a : Addr) : JC := ⟨c.τ, c.H, i :: c.mp, fun k => if k = i then some (.ref a) else c.vs k⟩
theorem J.at_ {g : Gm} {τ : Tg} {σ : L2.St} {H : Hp} {ρ : Env} {i : Nat} {a : Addr} (j : J g c τ σ H ρ) (hp : i ∉ c.mp) (hi : i < σ.length) : J g (c.at i a) τ (σ.set i (some (.ref a))) H (ρ.set i none) :=
  let j' := j.forget (z := some (.ref a)) hp
  ⟨j'.len, j'.dom, j'.ext, j'.grd, j'.grh, j'.env, fun k hk v e => by
    have e : (if k = i then some (V.ref a) else c.vs k) = some v := e
    by_cases h : k = i
    · subst h
      rw [if_pos rfl] at e
      cases e
      exact List.getElem?_set_self hi
    · rw [if_neg h] at e
      exact j'.pin k ((List.mem_cons.mp hk).resolve_left h) v e⟩
theorem J.unat0 {g : Gm} {τ : Tg} {σ : L2.St} {H : Hp} {ρ : Env} {i : Nat} {a : Addr} (j : J g (c.at i a) τ σ H ρ) (hp : i ∉ c.mp) : J g c τ σ H ρ :=
  ⟨j.len, j.dom, j.ext, j.grd, j.grh, j.env, fun k hk v e => j.pin k (List.mem_cons_of_mem _ hk) v (by
    show (if k = i then some (V.ref a) else c.vs k) = some v
    rw [if_neg fun (z : k = i) => hp (z ▸ hk)]; exact e)⟩
theorem J.unat {g : Gm} {τ : Tg} {σ : L2.St} {H : Hp} {ρ : Env} {i : Nat} {a : Addr} {z : Option V} (j : J g (c.at i a) τ σ H ρ) (hp : i ∉ c.mp) : J g c τ (σ.set i z) H (ρ.set i none) := (j.unat0 hp).forget hp
theorem s_tryAs {i : Nat} {x n : Str} {cv : Value} {m : Str → Option Bool} {body suite : List Stmt} {b₀ : Stmt} {np pos' : Pos} {t : TSt} {u : XD → TSt} (hs : X.stack = X.env :: X.outer) (hf : X.env.frame = some X.env.locals) (hN : X.N.Nodup) (hi : X.N[i]? = some n) (hln : X.env.kindOf n = some .local) (hc : Names X x cv) (tk : L2N.Takes X w)
    (hm : TakesC (gX X) X.K m cv) (hp : i ∉ c.mp)
    (hb : ∀ (W' : WX) (pn : List (Addr × Obj)) (xe : Value → Shared → Prop), L2N.Takes (X.tr pn xe) W' → PassesOwn (model X.prog X.w) X.A X.env xe → PSs (X.tr pn xe) body (tS (gX X) c W' t))
    (hsu : ∀ (a C : Addr) (oe : Obj) (d : Option Addr) (pn : List (Addr × Obj)) (y : XD), L2N.Zn (.ref C) d oe → (∃ vs, oe.data = .fields vs) → (gX X).cls y.c = some C → (y.ns = [] → d = none) → PSs (X.suite a ((a, oe) :: pn)) (b₀ :: suite) (tS (gX X) (c.at i a) wNo (u y))) :
    PS X (.Try body [.ExceptHandler (some (.Name x np)) (some n) (b₀ :: suite) pos'] [] [] pos) (tS (gX X) c w (sTryAs t i m u)) := by
  let ts : Addr → Value → Option Addr → TS := fun a cls d Dn σ H => ∃ y C, cls = .ref C ∧ (gX X).cls y.c = some C ∧ (y.ns = [] → d = none) ∧ tS (gX X) (c.at i a) wNo (u y) Dn σ H
  have P := L2N.ps_try_as (pos := pos) (np := np) (pos' := pos') (ts := ts) hs hf hN hi hln hc tk hb fun a oe cls d pn hz hd => ⟨fun pins s σ H Dn I ⟨y, C, e, h1, h2, h3⟩ => by
    subst e
    exact (hsu a C oe d pn y hz hd h1 h2).run pins s σ H Dn I h3⟩
  refine ⟨fun pins s σ H Dn I q => P.run pins s σ H Dn I ?_⟩
  have hlen : i < σ.length := by rw [I.len]; exact (List.getElem?_eq_some_iff.mp hi).1
  have keep := hlen
  obtain ⟨τ, ρ, j, q⟩ := tS_iff.mp q
  refine tS_iff.mpr ⟨τ, ρ, j, ?_⟩
  unfold sTryAs at q
  cases e : t ρ with
  | bad => rw [e] at q; exact q
  | nx ρ' => rw [e] at q; exact q
  | rt s ρ' => rw [e] at q; exact q
  | bk ρ' => rw [e] at q; exact q
  | ct ρ' => rw [e] at q; exact q
  | exc y ρ' =>
    rw [e] at q
    intro cls d τ' σ' H' ex j' xr
    dsimp only at q
    obtain ⟨C, rfl, hC, hr⟩ := id xr
    cases e2 : m y.c with
    | none => rw [e2] at q; exact q.elim
    | some b =>
      rw [e2] at q
      refine ⟨b, hm y.c C b hC e2, fun hb a na => ?_, fun hb => ?_⟩
      · subst hb
        dsimp only at q
        refine ⟨y, C, rfl, hC, fun hn => ?_, ?_⟩
        · rcases hr with ⟨_, _, h⟩ | ⟨h, _⟩
          · exact h
          · exact absurd hn h
        · by_cases hl : i < ρ'.length
          · rw [if_pos hl] at q
            refine tS_iff.mpr ⟨τ', _, j'.at_ hp (by rw [← j'.len]; exact hl), ?_⟩
            cases e3 : u y (ρ'.set i none) with
            | exc z ρ2 => rw [e3] at q; exact q.elim
            | bad => rw [e3] at q; exact q.elim
            | nx ρ2 => rw [e3] at q; exact fun τ2 σ2 H2 ex2 j2 => q τ2 _ H2 (ex.trans ex2) (j2.unat hp)
            | rt s ρ2 => rw [e3] at q; exact fun τ2 σ2 v H2 ex2 j2 hw => q τ2 _ v H2 (ex.trans ex2) (j2.unat0 hp) hw
            | bk ρ2 => rw [e3] at q; exact fun τ2 σ2 H2 ex2 j2 => q τ2 _ H2 (ex.trans ex2) (j2.unat hp)
            | ct ρ2 => rw [e3] at q; exact fun τ2 σ2 H2 ex2 j2 => q τ2 _ H2 (ex.trans ex2) (j2.unat hp)
          · rw [if_neg hl] at q; exact q.elim
      · subst hb
        exact q _ d τ' σ' H' ex j' xr
end
end VS
namespace VS
open PySem PySem.Spec PyProof.Rows L2

section
variable {X : Cx} {c : JC} {w : WX} {e a b d : Expr} {es : List Expr} {pos p apos : Pos} {x : Str}
/-! ### in, as a test -/
def bOrT (t u : TB) : TB := fun ρ => match t ρ with
  | .bad => u ρ
  | r => r
theorem b_orT {t u : TB} (h : PT X e (tTV (gX X) c w t)) (h' : PT X e (tTV (gX X) c w u)) : PT X e (tTV (gX X) c w (bOrT t u)) := by
  refine ⟨fun pins s σ H Q I q => ?_⟩
  obtain ⟨τ, ρ, j, q⟩ := q
  unfold bOrT at q
  cases e1 : t ρ with
  | bad => exact h'.run pins s σ H Q I ⟨τ, ρ, j, by rw [e1] at q; exact q⟩
  | ok z => exact h.run pins s σ H Q I ⟨τ, ρ, j, by rw [e1] at q ⊢; exact q⟩
  | exc y ρ' => exact h.run pins s σ H Q I ⟨τ, ρ, j, by rw [e1] at q ⊢; exact q⟩
theorem b_eqv {t u : TB} (h : PT X e (tTV (gX X) c w t)) (hu : ∀ ρ, u ρ ≠ .bad → t ρ = u ρ) : PT X e (tTV (gX X) c w u) := PTw h fun σ H Q ⟨τ, ρ, j, q⟩ => by
  refine ⟨τ, ρ, j, ?_⟩
  rw [hu ρ fun z => by rw [z] at q; exact q]
  exact q
theorem bO_or {f g : D → D → Option OO} {t u : TQ} (ρ : Env) (h : bC (oV (o2 (dOr2 f g) t u)) ρ ≠ .bad) : bOrT (bC (oV (o2 f t u))) (bC (oV (o2 g t u))) ρ = bC (oV (o2 (dOr2 f g) t u)) ρ := by
  have e0 : ∀ k : D → D → Option OO, bC (oV (o2 k t u)) ρ = (match (t ρ).bind fun s => (u ρ).bind fun s' => k s.fr s'.fr with
    | some (.v d) => (match (S.fz d).bl? with
      | some b => .ok (b, ρ)
      | none => .bad)
    | some (.n s) => (match s.bl? with
      | some b => .ok (b, ρ)
      | none => .bad)
    | none => .bad) := fun k => by
    simp only [bC, oV, o2]
    cases (t ρ).bind fun s => (u ρ).bind fun s' => k s.fr s'.fr with
    | none => rfl
    | some o => cases o <;> rfl
  unfold bOrT
  rw [e0 f, e0 g]
  rw [e0 (dOr2 f g)] at h ⊢
  cases h1 : t ρ with
  | none => rfl
  | some s =>
    cases h2 : u ρ with
    | none => rfl
    | some s' =>
      rw [h1, h2] at h
      simp only [Option.bind, dOr2] at h ⊢
      cases h3 : f s.fr s'.fr with
      | none => rfl
      | some o =>
        rw [h3] at h
        cases o with
        | v d =>
          dsimp only at h ⊢
          cases h4 : (S.fz d).bl? with
          | none => rw [h4] at h; exact absurd rfl h
          | some b => rfl
        | n s0 =>
          dsimp only at h ⊢
          cases h4 : s0.bl? with
          | none => rw [h4] at h; exact absurd rfl h
          | some b => rfl
theorem b_or2 {f g : D → D → Option OO} {t u : TQ} (h : PT X e (tTV (gX X) c w (bC (oV (o2 f t u))))) (h' : PT X e (tTV (gX X) c w (bC (oV (o2 g t u))))) : PT X e (tTV (gX X) c w (bC (oV (o2 (dOr2 f g) t u)))) := b_eqv (b_orT h h') bO_or
theorem b_in {ta tb : TQ} (ha : PE X a (tQ (gX X) c ta)) (hb : PE X b (tQ (gX X) c tb)) (hu : X.A.units + 65 < cLine) (hm : behindInMarks .In b = false := by rfl) : PT X (.Compare a [.In] [b] pos) (tTV (gX X) c w (bC (oV (o2 (dIn false) ta tb)))) :=
  b_or2 (b_cmp (op_inD hu) d_inL ha hb hm) (b_or2 (b_cmp op_in_seq d_inT ha hb hm) (b_or2 (b_cmp op_in_str d_inS ha hb hm) (b_c (te := fun σ H Q => tQ (gX X) c ta σ H fun y H1 => tQ (gX X) c tb σ H1 fun x H2 => rInK false y x H2 Q) (PTw (pt_cmp (pc_din (hu1 hu) ha hb) hm) fun σ H Q z => by
    simpa only [tB, tDIn, rInK, Bool.false_xor] using z) fun σ H Q z => io_2 d_inK σ H Q (iv_o σ H Q z))))
theorem b_notIn {ta tb : TQ} (ha : PE X a (tQ (gX X) c ta)) (hb : PE X b (tQ (gX X) c tb)) (hu : X.A.units + 65 < cLine) (hm : behindInMarks .NotIn b = false := by rfl) : PT X (.Compare a [.NotIn] [b] pos) (tTV (gX X) c w (bC (oV (o2 (dIn true) ta tb)))) :=
  b_or2 (b_cmp (op_notInD hu) d_notInL ha hb hm) (b_or2 (b_cmp op_notIn_seq d_notInT ha hb hm) (b_or2 (b_cmp op_notin_str d_notInS ha hb hm) (b_c (te := fun σ H Q => tQ (gX X) c ta σ H fun y H1 => tQ (gX X) c tb σ H1 fun x H2 => rInK true y x H2 Q) (PTw (pt_cmp (pc_dnotin (hu1 hu) ha hb) hm) fun σ H Q z => by
    simpa only [tB, tDNotIn, rInK, Bool.true_xor] using z) fun σ H Q z => io_2 d_inK σ H Q (iv_o σ H Q z))))

/-! ### module constants -/
theorem q_glI {i : Int} (hg : Gl X x) (hm : ∃ t, X.mg x = some (.int i t)) (hd : (x == ("__debug__" : Str)) = false := by decide) : PE X (.Name x p) (tQ (gX X) c (qC (.int i))) := by
  obtain ⟨t, h⟩ := hm
  exact q_c (pe_glob (v := .int i) hg h ⟨t, rfl⟩ hd) fun _ _ => .int i
theorem q_glS {z : Str} (hg : Gl X x) (hm : ∃ t, X.mg x = some (.str z t)) (hz : PyData.strOk z = true := by decide +kernel) (hd : (x == ("__debug__" : Str)) = false := by decide) : PE X (.Name x p) (tQ (gX X) c (qC (.str z))) := by
  obtain ⟨t, h⟩ := hm
  exact q_c (pe_glob (v := .str z) hg h ⟨t, rfl⟩ hd) fun _ _ => .str z hz

/-! ### a, b = e, f -/
def sPar (i j : Nat) (u : TAv) : TSt := fun ρ => (u ρ).st fun as ρ1 => match as with
  | [.fz d, .fz d'] => .nx ((ρ1.set i (some (.fz d))).set j (some (.fz d')))
  | _ => .bad
theorem s_par {i j : Nat} {x y : Str} {px py pt : Pos} {kt k2 pt2} {u : TAv} (hc : X.calm = true) (hN : X.N.Nodup) (hi : X.N[i]? = some x) (hj : X.N[j]? = some y) (hij : i ≠ j)
    (hx : X.env.scope.names.lookup x = some .local) (hy : X.env.scope.names.lookup y = some .local) (ha : PA X [a, b] (tA (gX X) c w u))
    (hw : swappedStores [.Tuple [.Name x px, .Name y py] kt pt] (.Tuple [a, b] k2 pt2) X.env = pure (some [x, y])) (hpi : i ∉ c.mp := by exact of_decide_eq_true rfl) (hpj : j ∉ c.mp := by exact of_decide_eq_true rfl)
    (hs : swapsWithSole [.Tuple [.Name x px, .Name y py] kt pt] (.Tuple [a, b] k2 pt2) pos.line X.env = pure false := by rfl) :
    PS X (.Assign [.Tuple [.Name x px, .Name y py] kt pt] (.Tuple [a, b] k2 pt2) pos) (tS (gX X) c w (sPar i j u)) :=
  PSw (ps_par hc hN hi hj hij hx hy ha hw hs) fun Dn σ H q => by
    obtain ⟨τ, ρ, jj, q⟩ := tS_iff.mp q
    refine ⟨τ, ρ, jj, ?_⟩
    unfold sPar at q
    cases e1 : u ρ with
    | bad => rw [e1] at q; exact q
    | exc x ρ' => rw [e1] at q; exact fun cls d H' τ' h1 h2 h3 => q cls d τ' σ H' h1 h2 h3
    | ok z =>
      obtain ⟨as, ρ1⟩ := z
      rw [e1] at q
      dsimp only [R.st] at q
      intro vs H1 τ1 ex1 j1 har
      split at q
      · rename_i d d'
        obtain ⟨hl, hs⟩ := har
        obtain ⟨v, e2, f1⟩ := hs 0 _ rfl
        obtain ⟨v', e3, f2⟩ := hs 1 _ rfl
        have ev : vs = [v, v'] := by
          match vs, hl, e2, e3 with
          | [a, b], _, e2, e3 => cases e2; cases e3; rfl
        refine ⟨v, v', ev, ?_⟩
        exact q τ1 _ H1 ex1 ((j1.storeF f1 hpi).storeF f2 hpj)
      · exact q.elim

/-! ### methods of values: data, one argument's data -/
section
variable {id m T : String} {r : V → List V → Hp → VK → Prop} {ta tb : TQ} {va vb : TV}
/-- the value is of the built-in class T -/
def TyOk (T : String) (d : D) : Prop := d.ty = some T ∧ (T = "str" ∨ T = "list")
theorem W.tyV {g : Gm} {τ : Tg} {H : Hp} {π : List Nat} {v : V} {s : S} {T : String} (h : W g τ H π v s) (e : s.fr.ty = some T) (hT : T = "str" ∨ T = "list") : tyV g.K T v H := by
  have f := h.view
  rcases hT with rfl | rfl
  · cases e2 : s.fr <;> rw [e2] at f e <;> simp [D.ty] at e
    cases f
    exact rfl
  · cases e2 : s.fr <;> rw [e2] at f e <;> simp [D.ty] at e
    cases f with
    | lst h1 h2 h3 => exact .inl ⟨rfl, _, .inl (.inl h1)⟩
def oMeth (T : String) (f : D → D → Option OO) : D → D → Option OO := fun d e => if d.ty = some T then f d e else none
theorem o_m1 {nm : Str} {f : D → D → Option OO} (hT : T = "str" ∨ T = "list") (pa : PlainAttrs T) (slot : Slot T nm id) (hty : typeOf (.builtin id) = pure (.type "method_descriptor")) (hm : MtR X id r) (hf : Op2 X (fun x y H Q => r x [y] H Q) f) (ho : PE X a (tQ (gX X) c ta)) (hb : PE X b (tQ (gX X) c tb))
    (hbase : attributeBase a nm X.env (eval a X.env) = eval a X.env := by rfl)
    (hfew : ((backTo pos (starEach [b] X.env)).all (fun x => !x.1) && (backToKw pos (keywordEach [] X.env)).all (fun x => x.1.isSome)
      && decide (([b] : List Expr).length + ([] : List Keyword).length + (if ([] : List Keyword).isEmpty then 0 else 1) < 30)) = true := by rfl)
    (hline : (apos.endLine == pos.line) = true := by rfl) (hs : starEach [b] X.env = (false, eval b X.env) :: starEach [] X.env := by rfl) (hplain : (backTo pos (starEach [] X.env)).any (·.1) = false := by rfl) :
    PE X (.Call (.Attribute a nm apos) [b] [] pos) (tO (gX X) c (o2 (oMeth T f) ta tb)) := by
  refine PEw (pe_bm pa slot hty hm ho (pa_cons hb pa_nil hs) hbase hfew hline hs hplain) fun σ H Q ⟨τ, ρ, j, q⟩ => ?_
  unfold o2 at q
  cases e1 : ta ρ with
  | none => rw [e1] at q; exact q.elim
  | some s =>
    rw [e1] at q
    dsimp only [Option.bind] at q
    cases e3 : tb ρ with
    | none => rw [e3] at q; exact q.elim
    | some s' =>
      rw [e3] at q
      dsimp only [oMeth] at q
      by_cases ht : s.fr.ty = some T
      · rw [if_pos ht] at q
        refine ⟨τ, ρ, s, j, e1, fun v H1 π sm j1 hw => ⟨hw.tyV ht hT, τ, ρ, s', j1, e3, fun v' H2 π' sm' j2 hw' => hf τ H2 π π' v v' s s' Q (dom0 j2) (hw.same sm') hw' ?_⟩⟩
        unfold OOk
        cases e2 : f s.fr s'.fr with
        | none => rw [e2] at q; exact q
        | some o =>
          rw [e2] at q
          cases o with
          | v d => exact fun v H3 s2 f2 => q v H3 ((sm.trans sm').trans s2) (j2.same s2) f2
          | n s' => exact fun v H3 n => q v H3 (j2.same n.same) (let ⟨p, H4, a, b, c, d⟩ := n; ⟨p, H4, a, (sm.trans sm').trans b, c, d⟩)
      · rw [if_neg ht] at q; exact q.elim
/-- the receiver quiet or not, its value given away -/
def vM1 (T : String) (f : D → D → Option OO) (va vb : TV) : TV := fun ρ => (va ρ).th fun s ρ1 => if s.fr.ty = some T then (vb ρ1).th fun s' ρ2 => R.op ρ2 (f s.fr s'.fr) else .bad
theorem v_m1 {nm : Str} {f : D → D → Option OO} (hT : T = "str" ∨ T = "list") (pa : PlainAttrs T) (slot : Slot T nm id) (hty : typeOf (.builtin id) = pure (.type "method_descriptor")) (hm : MtR X id r) (hf : Op2 X (fun x y H Q => r x [y] H Q) f) (ho : PE X a (tV (gX X) c w va)) (hb : PE X b (tV (gX X) c w vb))
    (hbase : attributeBase a nm X.env (eval a X.env) = eval a X.env := by rfl)
    (hfew : ((backTo pos (starEach [b] X.env)).all (fun x => !x.1) && (backToKw pos (keywordEach [] X.env)).all (fun x => x.1.isSome)
      && decide (([b] : List Expr).length + ([] : List Keyword).length + (if ([] : List Keyword).isEmpty then 0 else 1) < 30)) = true := by rfl)
    (hline : (apos.endLine == pos.line) = true := by rfl) (hs : starEach [b] X.env = (false, eval b X.env) :: starEach [] X.env := by rfl) (hplain : (backTo pos (starEach [] X.env)).any (·.1) = false := by rfl) :
    PE X (.Call (.Attribute a nm apos) [b] [] pos) (tV (gX X) c w (vM1 T f va vb)) := by
  refine PEw (pe_bm pa slot hty hm ho (pa_cons hb pa_nil hs) hbase hfew hline hs hplain) fun σ H Q ⟨τ, ρ, j, q⟩ => ?_
  refine ⟨τ, ρ, j, ?_⟩
  unfold vM1 at q
  cases e1 : va ρ with
  | bad => rw [e1] at q; exact q
  | exc x ρ' => rw [e1] at q; exact q
  | ok z =>
    obtain ⟨s, ρ1⟩ := z
    rw [e1] at q
    dsimp only [R.th] at q
    intro v H1 τ1 a1 a2 a3
    by_cases hty : s.fr.ty = some T
    case neg => rw [if_neg hty] at q; exact q.elim
    rw [if_pos hty] at q
    refine ⟨a3.tyV hty hT, _, ρ1, a2.freeze, ?_⟩
    cases e3 : vb ρ1 with
    | bad => rw [e3] at q; exact q
    | exc x ρ' => rw [e3] at q; exact fun cls d H2 τ2 b1 b2 b3 => q cls d H2 τ2 ((a1.trans retag_ext).trans b1) b2 b3
    | ok z =>
      obtain ⟨s', ρ2⟩ := z
      rw [e3] at q
      dsimp only [R.th] at q
      exact fun v' H2 τ2 b1 b2 b3 => hf _ H2 [0] [0] v v' (.fz s.fr) (.fz s'.fr) Q (dom0 b2.freeze) (.fz ((a3.freeze.tr b1).tr retag_ext)) (.fz b3.freeze) (op_fin b2.freeze (((a1.trans retag_ext).trans b1).trans retag_ext) q)
end
end
end VS
namespace VS
open PySem PySem.Spec PyProof.Rows L2

/-! ### odds and ends -/
theorem takes_no {X : Cx} : L2N.Takes X wNo := fun u s' ⟨a, B, sI, pins, σ, H, cls, d, e, I, nb, up, sky, na, os, ag, w⟩ => w.elim
theorem hu_of {k : Nat} {A : Around} (r : Room k A) : A.units + 65 < cLine := by have := r.un; omega
theorem hu_of1 {k : Nat} {A : Around} (r : Room k A) : A.units + 64 < cLine := by have := r.un; omega
section
variable {X : Cx} {c : JC} {w : WX} {e a b d : Expr} {es : List Expr} {pos p apos : Pos} {x : Str}
/-! ### in, as a test, its sides not quiet -/
theorem b_vor2 {f g : D → D → Option OO} {t u : TV} (h : PT X e (tTV (gX X) c w (bC (v2 f t u)))) (h' : PT X e (tTV (gX X) c w (bC (v2 g t u)))) : PT X e (tTV (gX X) c w (bC (v2 (dOr2 f g) t u))) := by
  refine ⟨fun pins s σ H Q I q => ?_⟩
  obtain ⟨τ, ρ, j, q⟩ := q
  have nb : v2 (dOr2 f g) t u ρ ≠ .bad := fun z => by
    unfold bC at q
    rw [z] at q
    exact q
  rcases v2_or nb with z | z
  · refine h.run pins s σ H Q I ⟨τ, ρ, j, ?_⟩
    unfold bC at q ⊢
    rw [z]; exact q
  · refine h'.run pins s σ H Q I ⟨τ, ρ, j, ?_⟩
    unfold bC at q ⊢
    rw [z]; exact q
variable {va vb : TV}
theorem b_vin (ha : PE X a (tV (gX X) c w va)) (hb : PE X b (tV (gX X) c w vb)) (hu : X.A.units + 65 < cLine) (hm : behindInMarks .In b = false := by rfl) : PT X (.Compare a [.In] [b] pos) (tTV (gX X) c w (bC (v2 (dIn false) va vb))) :=
  b_vor2 (b_vcmp (op_inD hu) d_inL ha hb hm) (b_vor2 (b_vcmp op_in_seq d_inT ha hb hm) (b_vor2 (b_vcmp op_in_str d_inS ha hb hm) (b_c (te := fun σ H Q => tV (gX X) c w va σ H fun y H1 => tV (gX X) c w vb σ H1 fun x H2 => rInK false y x H2 Q) (PTw (pt_cmp (pc_din (hu1 hu) ha hb) hm) fun σ H Q z => by
    simpa only [tB, tDIn, rInK, Bool.false_xor] using z) fun σ H Q z => iv_2 d_inK σ H Q z)))
theorem b_vnotIn (ha : PE X a (tV (gX X) c w va)) (hb : PE X b (tV (gX X) c w vb)) (hu : X.A.units + 65 < cLine) (hm : behindInMarks .NotIn b = false := by rfl) : PT X (.Compare a [.NotIn] [b] pos) (tTV (gX X) c w (bC (v2 (dIn true) va vb))) :=
  b_vor2 (b_vcmp (op_notInD hu) d_notInL ha hb hm) (b_vor2 (b_vcmp op_notIn_seq d_notInT ha hb hm) (b_vor2 (b_vcmp op_notin_str d_notInS ha hb hm) (b_c (te := fun σ H Q => tV (gX X) c w va σ H fun y H1 => tV (gX X) c w vb σ H1 fun x H2 => rInK true y x H2 Q) (PTw (pt_cmp (pc_dnotin (hu1 hu) ha hb) hm) fun σ H Q z => by
    simpa only [tB, tDNotIn, rInK, Bool.true_xor] using z) fun σ H Q z => iv_2 d_inK σ H Q z)))
end

/-! ### sorted(list) -/
def sortOk (ds : List D) : Prop := (∀ d ∈ ds, d.flat = true ∧ d.depth ≤ 60) ∧ PySem.W.AllAlike (ds.map D.py) ∧ PySem.W.Sortable (ds.map D.py) ∧ ds.length ≤ sizeLine
def sortD (ds : List D) : List D := ds.mergeSort (PySem.W.dataLe false D.py)
open Classical in
noncomputable def dSorted (d : D) : Option OO := match d with
  | .lst ds => if sortOk ds then some (.n (.lst (sortD ds))) else none
  | _ => none
def rSortD (K : PySem.W.Frag) : List V → Hp → VK → Prop := fun vs H Q => ∃ (a : Addr) (ps : List (V × D)), vs = [V.ref a] ∧ SqL K H a (ps.map Prod.fst) ∧ (∀ p ∈ ps, Dp K H p.1 p.2.py ∧ p.2.py.depth ≤ 60) ∧ PySem.W.AllAlike (ps.map fun p => p.2.py) ∧ PySem.W.Sortable (ps.map fun p => p.2.py) ∧ ps.length ≤ sizeLine ∧
  ∀ p, H p = none → Q (.ref p) (upd H p (.lst ((ps.mergeSort (PySem.W.dataLe false fun p => p.2.py)).map Prod.fst)))
theorem each_of_vals {α : Type} : ∀ {ps : List (V × α)} {us : List Value}, Vals (ps.map Prod.fst) us → PySem.W.EachIs (fun u p => RelV p.1 u ∧ p ∈ ps) us ps
  | [], _, .nil => .nil
  | p :: r, _, .cons h t => .cons ⟨h, List.mem_cons_self⟩ ((each_of_vals t).mono fun _ _ ⟨a, b⟩ => ⟨a, List.mem_cons_of_mem _ b⟩)
theorem vals_of_each {α : Type} {P : Value → V × α → Prop} (hP : ∀ u p, P u p → RelV p.1 u) : ∀ {us : List Value} {ps : List (V × α)}, PySem.W.EachIs P us ps → Vals (ps.map Prod.fst) us
  | _, _, .nil => .nil
  | _, _, .cons h t => .cons (hP _ _ h) (vals_of_each hP t)
theorem cr_sortD {X : Cx} (hu : X.A.units + 65 < cLine) : CallR X (.builtin "sorted") (rSortD X.K) := by
  intro pins s σ H vs us Q I r h
  obtain ⟨a, ps, rfl, hs, hp, hal, hk, hL, q⟩ := h
  obtain ⟨its, rv, hl, hz⟩ := I.list hs
  rw [Vals.ref1 r]
  have e := each_of_vals rv
  refine PySem.W.sorted_data (R := fun u (p : V × D) => RelV p.1 u) (bs := ps) (enc := fun p => p.2.py) hl.isList (e.mono fun _ _ h => h.1) (e.mono fun u p ⟨h1, h2⟩ => Dp.reads I _ _ _ (hp p h2).1 h1) hal hk hL (fun b hb => by have := (hp b hb).2; omega) fun out h1 h2 => ?_
  obtain ⟨ep, he'⟩ := PyProof.Rows.sortedAll_at s.heap its out.toArray
  refine ⟨.ref _, upd H (s.heap.objs.size + 1) (.lst ((ps.mergeSort (PySem.W.dataLe false fun p => p.2.py)).map Prod.fst)), I.laid (t' := s.toks) (fun _ _ => PyProof.Rows.sortedAll_old) (Nat.le_succ _) ⟨?_, out, ep, vals_of_each (fun _ _ h => h) h2, he'⟩, rfl, q _ (I.hok.fresh (Nat.le_succ _))⟩
  rw [List.length_map, List.length_mergeSort]; exact hL
theorem Fs.zip {g : Gm} {τ : Tg} {H : Hp} : ∀ {vs : List V} {ds : List D}, Fs g τ H vs ds → ∃ ps : List (V × D), ps.map Prod.fst = vs ∧ ps.map Prod.snd = ds ∧ ∀ p ∈ ps, F g τ H p.1 p.2
  | _, _, .nil => ⟨[], rfl, rfl, fun p h => nomatch h⟩
  | v :: _, d :: _, .cons f r => let ⟨ps, a, b, h⟩ := Fs.zip r; ⟨(v, d) :: ps, by rw [List.map_cons, a], by rw [List.map_cons, b], fun p hp => (List.mem_cons.mp hp).elim (fun e => e ▸ f) (h p)⟩
theorem Fs.unzip {g : Gm} {τ : Tg} {H : Hp} : ∀ {ps : List (V × D)}, (∀ p ∈ ps, F g τ H p.1 p.2) → Fs g τ H (ps.map Prod.fst) (ps.map Prod.snd)
  | [], _ => .nil
  | p :: r, h => .cons (h p List.mem_cons_self) (Fs.unzip fun q hq => h q (List.mem_cons_of_mem _ hq))
theorem d_sorted {X : Cx} : Op1 X (rC1 (rSortD X.K)) dSorted := fun τ H π x s Q hd hx q => by
  unfold dSorted at q
  cases e : s.fr with
  | lst ds =>
    rw [e] at q
    dsimp only at q
    by_cases ho : sortOk ds
    · rw [if_pos ho] at q
      obtain ⟨a, vs, rfl, hH, f⟩ := hx.lst_of e
      obtain ⟨ps, rfl, rfl, hps⟩ := f.zip
      obtain ⟨o1, o2, o3, o4⟩ := ho
      refine ⟨a, ps, rfl, .inl (.inl hH), fun p hp => ?_, ?_, ?_, by rw [List.length_map] at o4; exact o4, fun p hn => ?_⟩
      · obtain ⟨f1, f2⟩ := o1 p.2 (List.mem_map_of_mem hp)
        exact ⟨((hps p hp).dp f1).1, by rw [D.py_depth _ f1]; exact f2⟩
      · rw [List.map_map] at o2; exact o2
      · rw [List.map_map] at o3; exact o3
      · refine q _ _ ⟨p, H, rfl, .refl H, hn, same_new hn, ?_⟩
        refine ⟨_, upd_same, ?_⟩
        unfold sortD
        rw [← List.map_mergeSort (r := PySem.W.dataLe false fun p : V × D => p.2.py) (s := PySem.W.dataLe false D.py) (f := Prod.snd) (fun _ _ _ _ => rfl)]
        exact Fs.unzip fun p hp => hps p (List.mem_mergeSort.mp hp)
    · rw [if_neg ho] at q; exact q.elim
  | _ => rw [e] at q; exact q.elim
end VS
namespace VS
open PySem PySem.Spec PyProof.Rows L2
section
variable {P : Program} {w : World} {K : PySem.W.Frag} {mg : Str → Option Value} {base : Heap}
/-- a def, its meaning by name -/
theorem fn_by {x qual : Str} {params : Arguments} {body : List Stmt} {scope : Scope} {dvs : List V} {kws : List (Str × V)} {f : Addr} {fd : FuncData} {N ps : List Str} {n np k : Nat} {mp : List Nat} {m : List S → FR} (t : TSt) (F : FunD K x qual params body scope dvs kws f fd) (Sc : FnScope N ps scope)
    (hn : N.length = n) (hp : ps.length = np) (hm : m = fnSem n np mp t) (hmp : ∀ i ∈ mp, i < np)
    (hb : ∀ (cdv : Value) (A : Around) (outer : List PySem.Env) (s : Shared) (H : Hp) (E : XK) (τ : Tg) (H0 : Hp) (vs : List V), Room k (A.deeper (envOfC qual scope s.heap.objs.size f cdv)) →
      L2N.Takes (cxOf (L2N.CX P w) P w K mg base N qual scope f cdv A outer s H E) (fun cls d _ H => E cls d H) →
      PassesOwn (model P w) (A.deeper (envOfC qual scope s.heap.objs.size f cdv)) (envOfC qual scope s.heap.objs.size f cdv) (cxOf (L2N.CX P w) P w K mg base N qual scope f cdv A outer s H E).xe →
      PSs (cxOf (L2N.CX P w) P w K mg base N qual scope f cdv A outer s H E) body (tS (gX (cxOf (L2N.CX P w) P w K mg base N qual scope f cdv A outer s H E)) ⟨τ, H0, mp, fun i => vs[i]?⟩ (fun cls d _ H => E cls d H) t)) :
    FnOk P w K mg base (L2N.CX P w) (k + 1) f fd ps (spOf (gB K mg) np mp m) := by
  subst hn hp hm
  exact fn_vs F Sc hmp hb
end
/-! ### raise, its message worked out -/
section
variable {X : Cx} {c : JC} {w : WX} {pos : Pos} {C : Addr} {bmB : List Value} {B newId initId : String}
theorem pmk_msg {x : Str} {p pos : Pos} {e : Expr} {te : TE} (F : ExcBaseFacts B newId initId bmB) (q : PySem.W.excIn X.K C bmB newId = true) (gC : X.mg x = some (.ref C)) (kC : PySem.W.keepIn X.K (.ref C) = true) (r : Raises X (.ref C)) (hg : Gl X x) (he : PE X e te)
    (hdb : (x == ("__debug__" : Str)) = false) (hst : starEach [e] X.env = (false, eval e X.env) :: starEach [] X.env) (hpl : (backTo pos (starEach [] X.env)).any (·.1) = false) :
    L2N.PMk X (.Call (.Name x p) [e] [] pos) (fun σ H Q => te σ H fun _ H1 => Q (.ref C) none H1) := fun pins s σ H Q I h => by
  refine wpAny_Call_Name_kw (ld_glob I hg gC (PySem.W.callWith_K (h₀ := X.base) I.ok.mod.kin kC (thn ((pa_cons he pa_nil hst).run pos pins s σ H (fun vs H1 => ∃ v, vs = [v] ∧ Q (.ref C) none H1) I (show te σ H _ from ?_)) fun us s1 ⟨vs, H1, J1, rv, v, ev, qq⟩ => ⟨J1.kIn, ?_⟩) hst hpl) hdb)
  · exact (show te σ H (fun x H1 => ∃ v, [x] = [v] ∧ Q (.ref C) none H1) from by
      have k : (fun (x : V) H1 => ∃ v, [x] = [v] ∧ Q (.ref C) none H1) = fun (_ : V) H1 => Q (.ref C) none H1 := funext fun x => funext fun H1 => propext ⟨fun ⟨_, _, z⟩ => z, fun z => ⟨x, rfl, z⟩⟩
      rw [k]; exact h)
  · subst ev
    obtain ⟨u, rfl, _⟩ := vals1 rv
    obtain ⟨bm, N, nm, qn, bs, hdct, sn, sub, ab, col, dd, k0, k1, k2, k3, k5, mN, hC, hN, hni, T⟩ := exc_obj J1.kIn q
    exact wpAny_call_exc_subT F T hC hN hni (fun h' e2 hm => L2N.mk_of J1 hm r qq (J1.hok.gone hm.new)) (by show 1 ≤ sizeLine; rw [sizeLine_eq]; omega)
def sRaise1 (x : Str) (t : TV) : TSt := fun ρ => (t ρ).st fun _ ρ' => .exc { c := x } ρ'
theorem s_raise1 {x : Str} {e : Expr} {t : TV} {p p3 : Pos} (hc : X.calm = true) (tk : L2N.Takes X w) (E : ExK X.K X.mg x) (hg : Gl X x) (he : PE X e (tV (gX X) c w t)) (hdb : (x == ("__debug__" : Str)) = false := by decide) (hst : starEach [e] X.env = (false, eval e X.env) :: starEach [] X.env := by rfl)
    (hpl : (backTo p3 (starEach [] X.env)).any (·.1) = false := by rfl) : PS X (.Raise (some (.Call (.Name x p) [e] [] p3)) none pos) (tS (gX X) c w (sRaise1 x t)) := by
  obtain ⟨C, h1, h2, h3, h4, h5⟩ := E.ex
  refine PSw (L2N.ps_raise hc tk (pmk_msg PySem.F.excBase_ValueError h2 h1 h3 (raises_own h4 h5) hg he hdb hst hpl)) fun Dn σ H q => ?_
  obtain ⟨τ, ρ, j, q⟩ := tS_iff.mp q
  refine ⟨τ, ρ, j, ?_⟩
  unfold sRaise1 at q
  cases e1 : t ρ with
  | bad => rw [e1] at q; exact q
  | exc y ρ' => rw [e1] at q; exact fun cls d H' τ' a b k => q cls d τ' σ H' a b k
  | ok z =>
    obtain ⟨s, ρ1⟩ := z
    rw [e1] at q
    exact fun v H' τ' a b _ => q (.ref C) none τ' σ H' a b ⟨C, rfl, by show (match X.mg x with | some (.ref C) => some C | _ => none) = some C; rw [h1], .inl ⟨rfl, rfl, rfl⟩⟩
end
end VS
namespace VS
open PySem PySem.Spec PyProof.Rows L2

section
variable {g : Gm} {c : JC} {τ τ5 : Tg} {σ σ5 : L2.St} {H H5 : Hp} {ρ ρ5 : Env} {D : Addr} {vsD vs' : List V} {acc : List VS.D}
/-- behind a guarded piece of a comprehension -/
structure Grown (g : Gm) (c : JC) (D : Addr) (τ : Tg) (H : Hp) (τ6 : Tg) (σ6 : L2.St) (H6 : Hp) (ρ6 : Env) (vs' : List V) (acc : List VS.D) : Prop where
  ext : Ext τ H τ6 H6
  j : J g c τ6 σ6 H6 ρ6
  tg : τ6 D = some [0]
  hp : H6 D = some (.lst vs')
  fs : Fs g τ6 H6 vs' acc
theorem J.grown (j : J g c τ σ H ρ) (hD : τ D = some [0]) (hH : H D = some (.lst vsD)) (j6 : J g ⟨tagD D (some []) τ, H, c.mp, c.vs⟩ τ5 σ5 H5 ρ5) (f5 : Fs g τ5 H5 vs' acc) :
    Grown g c D τ H (tagD D (some [0]) τ5) σ5 (upd H5 D (.lst vs')) ρ5 vs' acc ∧ H5 D = some (.lst vsD) ∧ Ext τ5 H5 (tagD D (some [0]) τ5) (upd H5 D (.lst vs')) := by
  obtain ⟨u1, u2⟩ := j.unblock (vs' := vs') hD j6 hH
  have tD5 : τ5 D = some [] := (j6.grd D).mpr tagD_eq
  have e5 : Ext τ5 H5 (tagD D (some [0]) τ5) (upd H5 D (.lst vs')) := fun z o tz e => by
    have hz : z ≠ D := fun q => by rw [q, tD5] at tz; cases tz
    exact ⟨by rw [tagD_ne hz]; exact tz, by rw [upd_ne hz]; exact e⟩
  exact ⟨⟨u1, u2, tagD_eq, upd_same, f5.tr e5⟩, by rw [j6.grh D tagD_eq]; exact hH, e5⟩
theorem wipe_same {σ σ2 : L2.St} {own sl : List Nat} (hsl : ∀ i ∈ sl, i ∈ own) (al : Alike sl (L2.wipe σ own) σ2) : L2.wipe σ2 own = L2.wipe σ own := by
  refine List.ext_getElem? fun k => ?_
  by_cases hk : k ∈ own
  · by_cases hkl : k < σ.length
    · rw [wipe_in hk (by rw [al.len, wipe_length]; exact hkl), wipe_in hk hkl]
    · rw [List.getElem?_eq_none (by rw [wipe_length, al.len, wipe_length]; omega), List.getElem?_eq_none (by rw [wipe_length]; omega)]
  · rw [wipe_out hk, al.at_ k fun z => hk (hsl k z)]
end
section
variable {X : Cx} {c : JC} {own sl : List Nat} {a : TAs} {b : TB} {t : TV}
/-- one layer of a comprehension, from a list that has acc0 already -/
theorem lcL_run (hd : ∀ i ∈ own, i ∉ c.mp) (hsl : ∀ i ∈ sl, i ∈ own) {gg : TG} {tt : TT} {te : TE}
    (hg : ∀ (τ' : Tg) (H' : Hp) v σ H Q, tG (gX X) ⟨τ', H', c.mp, c.vs⟩ sl a v σ H Q → gg v σ H Q) (ht : ∀ (τ' : Tg) (H' : Hp) σ H Q, tTV (gX X) ⟨τ', H', c.mp, c.vs⟩ wNo b σ H Q → tt σ H Q) (he : ∀ (τ' : Tg) (H' : Hp) σ H Q, tV (gX X) ⟨τ', H', c.mp, c.vs⟩ wNo t σ H Q → te σ H Q)
    {D : Addr} {τb : Tg} {Hb : Hp} {Jt : It} {ds : List VS.D} (hw : Walks (gX X) Jt τb Hb ds) {τ0 : Tg} {H0 : Hp} {σ0 : L2.St} {ρ0 : Env} {vs0 : List V} {acc0 : List VS.D} (ex0 : Ext τb Hb τ0 H0) (j0 : J (gX X) c τ0 σ0 H0 ρ0) (hD0 : τ0 D = some [0]) (hH0 : H0 D = some (.lst vs0)) (f0 : Fs (gX X) τ0 H0 vs0 acc0)
    {out : List VS.D} {ρz : Env} (hx0 : lcL own a b t ds acc0 ρ0 = .ok (out, ρz)) {Fin : Hp → Prop}
    (fin : ∀ τ H vs, Ext τ0 H0 τ H → J (gX X) c τ (L2.wipe σ0 own) H (wipeE ρz own) → τ D = some [0] → H D = some (.lst vs) → Fs (gX X) τ H vs out → Fin H) :
    ∃ W : Nat → Nat → Hp → Prop, (∃ m, W 0 m H0) ∧ ∀ i m H, W i m H → (Jt.stop i H ∧ Fin H) ∨ (Jt.go i H ∧ ∃ Nx : Hp → Prop, (∀ H', Nx H' → ∃ m', m' < m ∧ W (i + 1) m' H') ∧ ∀ x H', Jt.yld i H x H' → gg x (L2.wipe σ0 own) H' fun σ2 H2 => L2.wipe σ2 own = L2.wipe σ0 own ∧ tt σ2 H2 fun b H3 =>
      if b = true then te σ2 H3 fun y H4 => ∃ acc, H4 D = some (.lst acc) ∧ acc.length < sizeLine ∧ Nx (upd H4 D (.lst (acc ++ [y]))) else Nx H3) := by
  refine ⟨fun i m H => m = ds.length - i ∧ ∃ τ ρ acc vs, Ext τ0 H0 τ H ∧ J (gX X) c τ (L2.wipe σ0 own) H (wipeE ρ own) ∧ τ D = some [0] ∧ H D = some (.lst vs) ∧ Fs (gX X) τ H vs acc ∧ lcL own a b t (ds.drop i) acc ρ = .ok (out, ρz),
    ⟨_, rfl, τ0, ρ0, acc0, vs0, .refl, j0.wipe hd, hD0, hH0, f0, hx0⟩, ?_⟩
  rintro i m H ⟨rfl, τ, ρ, acc, vs, ex, j, hD, hH, f, hx⟩
  obtain ⟨h1, h2⟩ := hw i τ H (ex0.trans ex) j.dom
  cases e1 : ds[i]? with
  | none =>
    left
    refine ⟨h2 e1, ?_⟩
    rw [List.drop_eq_nil_of_le (List.getElem?_eq_none_iff.mp e1)] at hx
    unfold lcL at hx
    cases hx
    exact fin τ H vs ex j hD hH f
  | some d =>
    right
    obtain ⟨go, yl⟩ := h1 d e1
    obtain ⟨hlt, ed⟩ := List.getElem?_eq_some_iff.mp e1
    rw [List.drop_eq_getElem_cons hlt, ed] at hx
    unfold lcL at hx
    refine ⟨go, fun H3 => ∃ m', m' < ds.length - i ∧ (m' = ds.length - (i + 1) ∧ ∃ τ ρ acc vs, Ext τ0 H0 τ H3 ∧ J (gX X) c τ (L2.wipe σ0 own) H3 (wipeE ρ own) ∧ τ D = some [0] ∧ H3 D = some (.lst vs) ∧ Fs (gX X) τ H3 vs acc ∧ lcL own a b t (ds.drop (i + 1)) acc ρ = .ok (out, ρz)), fun H3 z => z, fun y H3 hy => ?_⟩
    obtain ⟨sm, fy⟩ := yl y H3 hy
    have jy := j.same sm
    have hHy := sm D _ hH
    have jb := jy.block hD
    have toB : Ext τ H (tagD D (some []) τ) H3 := fun z o tz e => ⟨by rw [tagD_ne (fun q => by rw [q, hD] at tz; cases tz)]; exact tz, sm z o e⟩
    have toB3 : Ext τ H3 (tagD D (some []) τ) H3 := fun z o tz e => ⟨by rw [tagD_ne (fun q => by rw [q, hD] at tz; cases tz)]; exact tz, e⟩
    cases e2 : a d (wipeE ρ own) with
    | none => rw [e2] at hx; cases hx
    | some ρ2 =>
      rw [e2] at hx
      dsimp only at hx
      refine hg (tagD D (some []) τ) H3 y _ H3 _ ⟨_, wipeE ρ own, d, ρ2, jb, fy.tr toB3, e2, fun σ2 al j4 => ?_⟩
      have wip := wipe_same hsl al
      refine ⟨wip, ht _ _ _ _ _ ⟨_, ρ2, j4, ?_⟩⟩
      cases e3 : b ρ2 with
      | bad => rw [e3] at hx; cases hx
      | exc y ρ' => rw [e3] at hx; cases hx
      | ok z =>
        obtain ⟨k, ρ3⟩ := z
        rw [e3] at hx
        dsimp only [R.th] at hx
        intro H4 τ4 ex4 j5
        have done : ∀ {τ5 H5 ρ5 vs' acc'}, J (gX X) ⟨tagD D (some []) τ, H3, c.mp, c.vs⟩ τ5 σ2 H5 ρ5 → Fs (gX X) τ5 H5 vs' acc' → lcL own a b t (ds.drop (i + 1)) acc' ρ5 = .ok (out, ρz) →
            ∃ τ ρ acc vs, Ext τ0 H0 τ (upd H5 D (.lst vs')) ∧ J (gX X) c τ (L2.wipe σ0 own) (upd H5 D (.lst vs')) (wipeE ρ own) ∧ τ D = some [0] ∧ (upd H5 D (.lst vs')) D = some (.lst vs) ∧ Fs (gX X) τ (upd H5 D (.lst vs')) vs acc ∧ lcL own a b t (ds.drop (i + 1)) acc ρ = .ok (out, ρz) := fun {τ5 H5 ρ5 vs' acc'} j6 f5 hx5 => by
          obtain ⟨G, _, _⟩ := jy.grown hD hHy j6 f5
          have u3 := G.j.wipe hd
          rw [wip] at u3
          exact ⟨_, ρ5, acc', vs', (ex.trans (.same sm)).trans G.ext, u3, G.tg, G.hp, G.fs, hx5⟩
        cases k with
        | false =>
          rw [if_neg Bool.false_ne_true]
          simp only [Bool.false_eq_true, if_false] at hx
          have hD4 := (jy.grown hD hHy j5 ((f.tr toB).tr ex4)).2.1
          have := done (vs' := vs) j5 ((f.tr toB).tr ex4) hx
          rw [show upd H4 D (.lst vs) = H4 from upd_eq hD4] at this
          exact ⟨_, by omega, rfl, this⟩
        | true =>
          rw [if_pos rfl]
          simp only [if_true] at hx
          refine he _ _ _ _ _ ⟨τ4, ρ3, j5, ?_⟩
          cases e4 : t ρ3 with
          | bad => rw [e4] at hx; cases hx
          | exc y ρ' => rw [e4] at hx; cases hx
          | ok z =>
            obtain ⟨s, ρ4⟩ := z
            rw [e4] at hx
            dsimp only at hx
            intro v H5 τ5 ex5 j6 hwv
            by_cases hl : acc.length < sizeLine
            · rw [if_pos hl] at hx
              have ex45 := (ex4.trans ex5).trans (retag_ext (k := 0) (f := fun _ => none))
              have ff := (((f.tr toB).tr ex45).app (.cons hwv.freeze .nil))
              have hD5 := (jy.grown hD hHy j6.freeze ff).2.1
              exact ⟨vs, hD5, by rw [f.len]; exact hl, _, by omega, rfl, done (vs' := vs ++ [v]) j6.freeze ff hx⟩
            · rw [if_neg hl] at hx; cases hx
/-! ### two fors -/
def lc2L (own own1 : List Nat) (a : TAs) (b : TB) (it1 : TIt) (a1 : TAs) (b1 : TB) (t : TV) : List D → List D → Env → R (List D × Env)
  | [], acc, ρ => .ok (acc, ρ)
  | d :: ds, acc, ρ => match a d (wipeE ρ own) with
    | none => .bad
    | some ρ2 => (b ρ2).th fun k ρ3 => if k then (it1 ρ3).th fun ds1 ρ4 => (lcL own1 a1 b1 t ds1 acc ρ4).th fun acc' ρ5 => lc2L own own1 a b it1 a1 b1 t ds acc' ρ5 else lc2L own own1 a b it1 a1 b1 t ds acc ρ3
def vLc2 (own own1 : List Nat) (it : TIt) (a : TAs) (b : TB) (it1 : TIt) (a1 : TAs) (b1 : TB) (t : TV) : TV := fun ρ => (it ρ).th fun ds ρ1 => match lc2L own own1 a b it1 a1 b1 t ds [] ρ1 with
  | .ok (acc, ρ2) => .ok (.lst acc, restE ρ1 own ρ2)
  | _ => .bad
theorem wipe2 {σ2 σ : L2.St} {own own1 : List Nat} (h1 : ∀ i ∈ own1, i ∈ own) (hw : L2.wipe σ2 own = L2.wipe σ own) : L2.wipe (L2.wipe σ2 own1) own = L2.wipe σ own := by
  rw [← hw]
  refine List.ext_getElem? fun k => ?_
  by_cases hk : k ∈ own
  · by_cases hkl : k < σ2.length
    · rw [wipe_in hk (by rw [wipe_length]; exact hkl), wipe_in hk hkl]
    · rw [List.getElem?_eq_none (by rw [wipe_length, wipe_length]; omega), List.getElem?_eq_none (by rw [wipe_length]; omega)]
  · rw [wipe_out hk, wipe_out hk, wipe_out fun z => hk (h1 k z)]
theorem wipeE2 {ρ : Env} {own own1 : List Nat} (h1 : ∀ i ∈ own1, i ∈ own) : wipeE (wipeE ρ own1) own = wipeE ρ own := by
  refine List.ext_getElem? fun k => ?_
  rw [wipeE_at, wipeE_at, wipeE_at, wipeE_len]
  by_cases hk : k ∈ own ∧ k < ρ.length
  · rw [if_pos hk, if_pos hk]
  · rw [if_neg hk, if_neg hk]
    by_cases hk1 : k ∈ own1 ∧ k < ρ.length
    · exact absurd ⟨h1 k hk1.1, hk1.2⟩ hk
    · rw [if_neg hk1]
theorem lc2_vs {w : WX} {own1 sl1 : List Nat} {it it1 : TIt} {a1 : TAs} {b1 : TB} (hd : ∀ i ∈ own, i ∉ c.mp) (hsl : ∀ i ∈ sl, i ∈ own) (h11 : ∀ i ∈ own1, i ∈ own) (hsl1 : ∀ i ∈ sl1, i ∈ own1) (wi wi1 : TI) (gg g1 : TG) (tt tt1 : TT) (te : TE)
    (hwi : ∀ σ H Q, tI (gX X) c w it σ H Q → wi σ H Q) (hg : ∀ (τ' : Tg) (H' : Hp) v σ H Q, tG (gX X) ⟨τ', H', c.mp, c.vs⟩ sl a v σ H Q → gg v σ H Q) (ht : ∀ (τ' : Tg) (H' : Hp) σ H Q, tTV (gX X) ⟨τ', H', c.mp, c.vs⟩ wNo b σ H Q → tt σ H Q)
    (hwi1 : ∀ (τ' : Tg) (H' : Hp) σ H Q, tI (gX X) ⟨τ', H', c.mp, c.vs⟩ wNo it1 σ H Q → wi1 σ H Q) (hg1 : ∀ (τ' : Tg) (H' : Hp) v σ H Q, tG (gX X) ⟨τ', H', c.mp, c.vs⟩ sl1 a1 v σ H Q → g1 v σ H Q) (ht1 : ∀ (τ' : Tg) (H' : Hp) σ H Q, tTV (gX X) ⟨τ', H', c.mp, c.vs⟩ wNo b1 σ H Q → tt1 σ H Q)
    (he : ∀ (τ' : Tg) (H' : Hp) σ H Q, tV (gX X) ⟨τ', H', c.mp, c.vs⟩ wNo t σ H Q → te σ H Q)
    (σ : L2.St) (H : Hp) (Q : VK) (z : tV (gX X) c w (vLc2 own own1 it a b it1 a1 b1 t) σ H Q) : tLc2 wi gg tt wi1 g1 tt1 te own own1 σ H Q := by
  obtain ⟨τ0, ρ0, j0, q⟩ := z
  refine hwi σ H _ ⟨τ0, ρ0, j0, ?_⟩
  unfold vLc2 at q
  cases e0 : it ρ0 with
  | bad => rw [e0] at q; exact q
  | exc x ρ' => rw [e0] at q; exact q
  | ok z =>
    obtain ⟨ds, ρ1⟩ := z
    rw [e0] at q
    dsimp only [R.th] at q
    intro Jt H1 τ1 ex1 j1 hw D hDn
    have tD : τ1 D = none := j1.free hDn
    have neD : ∀ {x o}, H1 x = some o → x ≠ D := fun {x o} e z => by rw [z, hDn] at e; cases e
    have exD : Ext τ1 H1 (tagD D (some [0]) τ1) (upd H1 D (.lst [])) := fun x o tx e => ⟨by rw [tagD_ne (neD e)]; exact tx, by rw [upd_ne (neD e)]; exact e⟩
    have jD : J (gX X) c (tagD D (some [0]) τ1) σ (upd H1 D (.lst [])) ρ1 := by
      refine j1.turn j1.len (fun x q e => ?_) exD (fun x => ?_) (fun x e => ?_) (fun k s e => .inl ⟨e, rfl, fun x r o tx e => ⟨by rw [tagD_ne (neD e)]; exact tx, by rw [upd_ne (neD e)]; exact e⟩⟩) fun _ _ => rfl
      · by_cases h : x = D
        · subst h; exact ⟨_, upd_same⟩
        · rw [tagD_ne h] at e
          obtain ⟨o, z⟩ := j1.dom x q e
          exact ⟨o, by rw [upd_ne h]; exact z⟩
      · by_cases h : x = D
        · subst h
          rw [tagD_eq, tD]
          exact ⟨(fun z => nomatch z), (fun z => nomatch z)⟩
        · rw [tagD_ne h]
      · obtain ⟨o, z⟩ := j1.dom x [] e
        rw [upd_ne (neD z)]
    cases ex : lc2L own own1 a b it1 a1 b1 t ds [] ρ1 with
    | bad => rw [ex] at q; exact q.elim
    | exc x ρ' => rw [ex] at q; exact q.elim
    | ok z =>
    obtain ⟨out, ρz⟩ := z
    rw [ex] at q
    dsimp only at q
    refine ⟨fun i m H2 => m = ds.length - i ∧ ∃ τ ρ acc vsD, J (gX X) c τ (L2.wipe σ own) H2 (wipeE ρ own) ∧ Ext τ1 H1 τ H2 ∧ τ D = some [0] ∧ H2 D = some (.lst vsD) ∧ Fs (gX X) τ H2 vsD acc ∧ lc2L own own1 a b it1 a1 b1 t (ds.drop i) acc ρ = .ok (out, ρz),
      ⟨_, rfl, tagD D (some [0]) τ1, ρ1, [], [], jD.wipe hd, exD, tagD_eq, upd_same, .nil, ex⟩, ?_⟩
    rintro i m H2 ⟨rfl, τ, ρ, acc, vsD, j, ex, hD, hHD, fD, hx⟩
    obtain ⟨h1, h2⟩ := hw i τ H2 ex j.dom
    cases e1 : ds[i]? with
    | none =>
      left
      have hl : ds.length ≤ i := List.getElem?_eq_none_iff.mp e1
      refine ⟨h2 e1, ?_⟩
      rw [List.drop_eq_nil_of_le hl] at hx
      unfold lc2L at hx
      cases hx
      have jr := J.rest (l := own) j1 ex j hd
      have er : restE ρ1 own (wipeE ρz own) = restE ρ1 own ρz := restE_wipe (by rw [← wipeE_len (l := own), j.len, wipe_length, ← j1.len])
      rw [er] at jr
      exact q _ H2 τ (ex1.trans ex) jr (.lst hHD hD fD)
    | some d =>
      right
      obtain ⟨go, yl⟩ := h1 d e1
      obtain ⟨hlt, ed⟩ := List.getElem?_eq_some_iff.mp e1
      rw [List.drop_eq_getElem_cons hlt, ed] at hx
      unfold lc2L at hx
      refine ⟨go, fun H3 => ∃ m', m' < ds.length - i ∧ (m' = ds.length - (i + 1) ∧ ∃ τ ρ acc vsD, J (gX X) c τ (L2.wipe σ own) H3 (wipeE ρ own) ∧ Ext τ1 H1 τ H3 ∧ τ D = some [0] ∧ H3 D = some (.lst vsD) ∧ Fs (gX X) τ H3 vsD acc ∧ lc2L own own1 a b it1 a1 b1 t (ds.drop (i + 1)) acc ρ = .ok (out, ρz)), fun H3 z => z, fun y H3 hy => ?_⟩
      obtain ⟨sm, f⟩ := yl y H3 hy
      have jy := j.same sm
      have hHy := sm D _ hHD
      have jb := jy.block hD
      have toB : Ext τ H2 (tagD D (some []) τ) H3 := fun z o tz e => ⟨by rw [tagD_ne (fun q => by rw [q, hD] at tz; cases tz)]; exact tz, sm z o e⟩
      have toB3 : Ext τ H3 (tagD D (some []) τ) H3 := fun z o tz e => ⟨by rw [tagD_ne (fun q => by rw [q, hD] at tz; cases tz)]; exact tz, e⟩
      cases e2 : a d (wipeE ρ own) with
      | none => rw [e2] at hx; cases hx
      | some ρ2 =>
        rw [e2] at hx
        dsimp only at hx
        refine hg (tagD D (some []) τ) H3 y _ H3 _ ⟨_, wipeE ρ own, d, ρ2, jb, f.tr toB3, e2, fun σ2 al j4 => ?_⟩
        have wip := wipe_same hsl al
        refine ⟨wip, ht _ _ _ _ _ ⟨_, ρ2, j4, ?_⟩⟩
        cases e3 : b ρ2 with
        | bad => rw [e3] at hx; cases hx
        | exc y ρ' => rw [e3] at hx; cases hx
        | ok z =>
          obtain ⟨k, ρ3⟩ := z
          rw [e3] at hx
          dsimp only [R.th] at hx
          intro H4 τ4 ex4 j5
          cases k with
          | false =>
            rw [if_neg Bool.false_ne_true]
            simp only [Bool.false_eq_true, if_false] at hx
            obtain ⟨G, hD4, _⟩ := jy.grown hD hHy j5 ((fD.tr toB).tr ex4)
            rw [upd_eq hD4] at G
            have u3 := G.j.wipe hd
            rw [wip] at u3
            exact ⟨_, by omega, rfl, _, ρ3, acc, vsD, u3, (ex.trans (.same sm)).trans G.ext, G.tg, G.hp, G.fs, hx⟩
          | true =>
            rw [if_pos rfl]
            simp only [if_true] at hx
            refine hwi1 _ _ _ _ _ ⟨τ4, ρ3, j5, ?_⟩
            cases e4 : it1 ρ3 with
            | bad => rw [e4] at hx; cases hx
            | exc y ρ' => rw [e4] at hx; cases hx
            | ok z =>
              obtain ⟨ds1, ρ4⟩ := z
              rw [e4] at hx
              dsimp only at hx
              intro J1 H5 τ5 ex5 j6 hw1
              cases e5 : lcL own1 a1 b1 t ds1 acc ρ4 with
              | bad => rw [e5] at hx; cases hx
              | exc y ρ' => rw [e5] at hx; cases hx
              | ok z =>
                obtain ⟨acc', ρ5⟩ := z
                rw [e5] at hx
                dsimp only at hx
                obtain ⟨G, hD5, toG⟩ := jy.grown hD hHy j6 (((fD.tr toB).tr ex4).tr ex5)
                rw [upd_eq hD5] at G toG
                refine lcL_run (c := c) (fun i hi => hd i (h11 i hi)) hsl1 hg1 ht1 he hw1 toG G.j G.tg G.hp G.fs e5 fun τ6 H6 vs6 ex6 j7 t6 hp6 f6 => ?_
                have u3 := j7.wipe hd
                rw [wipe2 h11 wip, wipeE2 h11] at u3
                exact ⟨_, by omega, rfl, τ6, ρ5, acc', vs6, u3, ((ex.trans (.same sm)).trans G.ext).trans ex6, t6, hp6, f6, hx⟩
end
section
variable {X : Cx} {c : JC} {w : WX} {pos : Pos}
theorem v_lc2 {elt tg iter tg1 iter1 : Expr} {ifs ifs1 : List Expr} {scope : Scope} {own : List (Str × Nat)} {own1 sl sl1 : List Nat} {it it1 : TIt} {a a1 : TAs} {b b1 : TB} {t : TV} (hc : X.calm = true) (hN : X.N.Nodup) (hi : PI X tg iter (tI (gX X) c w it)) (ok : BlkOk X.N X.env.scope scope own)
    (hg : ∀ (s : Shared) (H : Hp) (C : Addr) (cl : List (Str × Addr)) (fp : List Addr) (τ' : Tg) (H' : Hp), PG (X.blk s H scope (compEnvC scope cl C X.env) fp) tg (tG (gX X) ⟨τ', H', c.mp, c.vs⟩ sl a))
    (ht : ∀ (s : Shared) (H : Hp) (C : Addr) (cl : List (Str × Addr)) (fp : List Addr) (τ' : Tg) (H' : Hp), PTs (X.blk s H scope (compEnvC scope cl C X.env) fp) ifs (tTV (gX X) ⟨τ', H', c.mp, c.vs⟩ wNo b))
    (hi1 : ∀ (s : Shared) (H : Hp) (C : Addr) (cl : List (Str × Addr)) (fp : List Addr) (τ' : Tg) (H' : Hp), PI (X.blk s H scope (compEnvC scope cl C X.env) fp) tg1 iter1 (tI (gX X) ⟨τ', H', c.mp, c.vs⟩ wNo it1))
    (hg1 : ∀ (s : Shared) (H : Hp) (C : Addr) (cl : List (Str × Addr)) (fp : List Addr) (τ' : Tg) (H' : Hp), PG (X.blk s H scope (compEnvC scope cl C X.env) fp) tg1 (tG (gX X) ⟨τ', H', c.mp, c.vs⟩ sl1 a1))
    (ht1 : ∀ (s : Shared) (H : Hp) (C : Addr) (cl : List (Str × Addr)) (fp : List Addr) (τ' : Tg) (H' : Hp), PTs (X.blk s H scope (compEnvC scope cl C X.env) fp) ifs1 (tTV (gX X) ⟨τ', H', c.mp, c.vs⟩ wNo b1))
    (he : ∀ (s : Shared) (H : Hp) (C : Addr) (cl : List (Str × Addr)) (fp : List Addr) (τ' : Tg) (H' : Hp), PE (X.blk s H scope (compEnvC scope cl C X.env) fp) elt (tV (gX X) ⟨τ', H', c.mp, c.vs⟩ wNo t))
    (hd : ∀ i ∈ own.map (·.2), i ∉ c.mp := by exact of_decide_eq_true rfl) (hsl : ∀ i ∈ sl, i ∈ own.map (·.2) := by decide) (h11 : ∀ i ∈ own1, i ∈ own.map (·.2) := by decide) (hsl1 : ∀ i ∈ sl1, i ∈ own1 := by decide)
    (hs : ∀ x, foldedSetIterable iter X.env x = pure x := by intro _; rfl) (hs1 : ∀ env x, foldedSetIterable iter1 env x = pure x := by intro _ _; rfl) :
    PE X (.ListComp elt [⟨tg, iter, ifs, 0⟩, ⟨tg1, iter1, ifs1, 0⟩] scope pos) (tV (gX X) c w (vLc2 (own.map (·.2)) own1 it a b it1 a1 b1 t)) := by
  let g : TG := fun v σ H Q => ∃ τ' H', tG (gX X) ⟨τ', H', c.mp, c.vs⟩ sl a v σ H Q
  let tt : TT := fun σ H Q => ∃ τ' H', tTV (gX X) ⟨τ', H', c.mp, c.vs⟩ wNo b σ H Q
  let wi1 : TI := fun σ H Q => ∃ τ' H', tI (gX X) ⟨τ', H', c.mp, c.vs⟩ wNo it1 σ H Q
  let g1 : TG := fun v σ H Q => ∃ τ' H', tG (gX X) ⟨τ', H', c.mp, c.vs⟩ sl1 a1 v σ H Q
  let tt1 : TT := fun σ H Q => ∃ τ' H', tTV (gX X) ⟨τ', H', c.mp, c.vs⟩ wNo b1 σ H Q
  let te : TE := fun σ H Q => ∃ τ' H', tV (gX X) ⟨τ', H', c.mp, c.vs⟩ wNo t σ H Q
  refine PEw (pe_lc2 hc hN hi ok h11 (g := g) (tt := tt) (wi1 := wi1) (g1 := g1) (tt1 := tt1) (te := te) (fun s H C cl fp => ?_) (fun s H C cl fp => ?_) (fun s H C cl fp => ?_) (fun s H C cl fp => ?_) (fun s H C cl fp => ?_) (fun s H C cl fp => ?_) hs hs1)
    (lc2_vs hd hsl h11 hsl1 _ wi1 g g1 tt tt1 te (fun _ _ _ h => h) (fun τ' H' _ _ _ _ h => ⟨τ', H', h⟩) (fun τ' H' _ _ _ h => ⟨τ', H', h⟩) (fun τ' H' _ _ _ h => ⟨τ', H', h⟩) (fun τ' H' _ _ _ _ h => ⟨τ', H', h⟩) (fun τ' H' _ _ _ h => ⟨τ', H', h⟩) fun τ' H' _ _ _ h => ⟨τ', H', h⟩)
  · exact ⟨fun pins s1 σ H1 x u Q I r ⟨τ', H', q⟩ => (hg s H C cl fp τ' H').run pins s1 σ H1 x u Q I r q⟩
  · exact ⟨fun pins s1 σ H1 Q I ⟨τ', H', q⟩ => (ht s H C cl fp τ' H').run pins s1 σ H1 Q I q⟩
  · exact ⟨fun pins s1 σ H1 Q I ⟨τ', H', q⟩ => (hi1 s H C cl fp τ' H').run pins s1 σ H1 Q I q⟩
  · exact ⟨fun pins s1 σ H1 x u Q I r ⟨τ', H', q⟩ => (hg1 s H C cl fp τ' H').run pins s1 σ H1 x u Q I r q⟩
  · exact ⟨fun pins s1 σ H1 Q I ⟨τ', H', q⟩ => (ht1 s H C cl fp τ' H').run pins s1 σ H1 Q I q⟩
  · exact ⟨fun pins s1 σ H1 Q I ⟨τ', H', q⟩ => (he s H C cl fp τ' H').run pins s1 σ H1 Q I q⟩
end
end VS
namespace VS
open PySem PySem.Spec PyProof.Rows L2

/-! ### a comprehension while an exception is handled -/
section
variable {X : Cx}
/-- the block's context, the handled exception known in it -/
abbrev blkH (X : Cx) (p : Addr × Obj) (s : Shared) (H : Hp) (scope : Scope) (cenv : PySem.Env) (fp : List Addr) : Cx := { X.blk s H scope cenv fp with pn := [p] }
theorem inv_blkH {p : Addr × Obj} {s s' : Shared} {H H' : Hp} {scope : Scope} {cenv : PySem.Env} {fp : List Addr} {pins : List (Addr × Obj)} {σ : L2.St} (I : Inv (X.blk s H scope cenv fp) pins σ H' s')
    (hp : s'.heap.get? p.1 = some p.2 ∧ H' p.1 = none ∧ p.1 ≠ cenv.locals ∧ p.1 ∉ (X.blk s H scope cenv fp).fs ∧ ∀ v, p.2.data ≠ .cell v) : Inv (blkH X p s H scope cenv fp) pins σ H' s' :=
  let o : (X.blk s H scope cenv fp).Ok := I.ok
  ⟨⟨o.mod, o.kind, o.glob, o.blt, o.above, o.inj, o.has, o.cab, o.hd, o.frames, o.stk, o.exf, o.bs, o.bsz, o.noex, o.exfs, o.funs, o.frf⟩, I.os, I.bare, I.base, I.loc, I.cell, I.free, I.freeC, fun q hq => (List.mem_cons.mp (show q ∈ p :: pins from hq)).elim (fun e => e ▸ hp) fun m => I.pin q (List.mem_append_right _ m), I.hok, I.len⟩
theorem lcH_core {pins : List (Addr × Obj)} {s : Shared} {σ : L2.St} {H : Hp} {Q : VK} {elt tg iter : Expr} {ifs : List Expr} {scope : Scope} {own : List (Str × Nat)} {pos pos' : Pos} {wi : TI} {g : TG} {tt : TT} {te : TE} {use : Option (Value → Sem Unit)} {Qf : Value → Shared → Prop}
    {p : Addr × Obj} (hot : L2H.Hot1 X.A p) (hpn : p ∈ X.pn) (nd : X.N.Nodup) (I : Inv X pins σ H s) (pit : L2H.PIH X tg iter wi) (ok : BlkOk X.N X.env.scope scope own)
    (pg : ∀ (s : Shared) (H : Hp) (C : Addr) (cl : List (Str × Addr)) (fp : List Addr), PG (blkH X p s H scope (compEnvC scope cl C X.env) fp) tg g)
    (pt : ∀ (s : Shared) (H : Hp) (C : Addr) (cl : List (Str × Addr)) (fp : List Addr), PTs (blkH X p s H scope (compEnvC scope cl C X.env) fp) ifs tt)
    (pe : ∀ (s : Shared) (H : Hp) (C : Addr) (cl : List (Str × Addr)) (fp : List Addr), PE (blkH X p s H scope (compEnvC scope cl C X.env) fp) elt te) (fo : ∀ x, foldedSetIterable iter X.env x = pure x)
    (h : tLc wi g tt te (own.map (·.2)) σ H Q)
    (back : ∀ D C s' m H', Inv X pins σ H' s' → Q (.ref D) H' → s'.heap.Ns C m → FpOk X pins H' C → compPost (model X.prog X.w) X.A X.xe use Qf (.ref D) C (.ok .next) s') :
    wpAny (model X.prog X.w) X.A (comprehension (.ListComp elt [⟨tg, iter, ifs, 0⟩] scope pos) scope X.env pos' (newList []) false (eval iter X.env) use) Qf X.xe s := by
  have cells : ∀ y ∈ scope.names, y.2 = .free → ∃ c, X.env.cells.lookup y.1 = some c := fun y hy e => I.ok.has _ (ok.free y hy e)
  refine wpAny_comprehension_free (use := use) rfl fo (closure_ok cells) ok.kind (fun y hy e => (ok.uniq y hy).trans (congrArg some e)) (thn (pit.run pins s σ H _ I h) fun xv sA hx => thn hx fun itv sB hB => ?_)
  obtain ⟨it, fp, tn, Jt, HB, e, IB, T, stB, fB, q⟩ := hB
  subst e
  refine wpAny_newObj_type (newEnv_comp ?_) (Nat.zero_le _)
  generalize eD : sB.heap.objs.size = D
  obtain ⟨W, ⟨m0, w0⟩, turn⟩ := q D (IB.hok.fresh (Nat.le_of_eq eD))
  generalize eC : ({ sB with heap := sB.heap.push { cls := .type "list", data := .seq ([] : List Value).toArray } } : Shared) = sC
  have hC : sC.heap = sB.heap.push { cls := .type "list", data := .seq ([] : List Value).toArray } := by rw [← eC]
  have IC : Inv X pins σ (upd HB D (.lst [])) sC := by
    rw [← eC]
    exact IB.laid (t' := sB.toks) (fun b o e => Heap.get?_push_of_some _ e) (Nat.le_of_eq eD) ⟨Nat.zero_le _, [], 0, .nil, by rw [← eD]; exact Heap.get?_push_size _ rfl⟩
  have small : ∀ b ∈ fp, b < sB.heap.objs.size := fun b hb => let ⟨o, e, _⟩ := T.obj _ _ stB b hb; Heap.lt_size e
  have fC : ∀ b ∈ fp, FpOk X pins (upd HB D (.lst [])) b ∧ b < sC.heap.objs.size := fun b hb =>
    ⟨⟨by rw [upd_ne (by rw [← eD]; exact Nat.ne_of_lt (small b hb))]; exact (fB b hb).1, (fB b hb).2⟩, by rw [hC, Heap.size_push]; exact Nat.lt_succ_of_lt (small b hb)⟩
  have stC : tn 0 sC.heap := T.keep _ _ _ stB fun b _ o e => by rw [hC]; exact Heap.get?_push_of_some _ e
  have IE := block_start IC ok nd fC
  have kg := pg sC (upd HB D (.lst [])) sC.heap.objs.size (cellsFrom (sC.heap.objs.size + 1) scope.names (cloFrom X.env.cells scope.names [])) fp
  have kt := pt sC (upd HB D (.lst [])) sC.heap.objs.size (cellsFrom (sC.heap.objs.size + 1) scope.names (cloFrom X.env.cells scope.names [])) fp
  have ke := pe sC (upd HB D (.lst [])) sC.heap.objs.size (cellsFrom (sC.heap.objs.size + 1) scope.names (cloFrom X.env.cells scope.names [])) fp
  show codeAny _ _ (.compStart (.ListComp elt [⟨tg, iter, ifs, 0⟩] scope pos) 0 (.ref it) (.ref D) (compEnvC scope (cellsFrom (sC.heap.objs.size + 1) scope.names (cloFrom X.env.cells scope.names [])) sC.heap.objs.size X.env)) (compPost (model X.prog X.w) X.A X.xe use Qf (.ref D) sC.heap.objs.size) { sC with heap := pushCells (sC.heap.push { cls := .type "dict", data := .dict #[] }) scope.names }
  have nofp : ∀ b ∈ fp, (upd HB D (.lst [])) b = none := fun b hb => (fC b hb).1.1
  have PC := IC.pin p (List.mem_append_left _ hpn)
  have pold : p.1 < sC.heap.objs.size := Heap.lt_size PC.1
  generalize ece : compEnvC scope (cellsFrom (sC.heap.objs.size + 1) scope.names (cloFrom X.env.cells scope.names [])) sC.heap.objs.size X.env = ce at IE kg kt ke ⊢
  have locs : ce.locals = sC.heap.objs.size := by subst ece; rfl
  generalize eHC : upd HB D (.lst []) = HC at IC IE kg kt ke w0 nofp fC PC
  generalize eE : ({ sC with heap := pushCells (sC.heap.push { cls := .type "dict", data := .dict #[] }) scope.names } : Shared) = sE at IE ⊢
  have stE : tn 0 sE.heap := T.keep _ _ _ stC fun b _ o e => by rw [← eE]; exact pushCells_keeps _ _ _ _ (Heap.get?_push_of_some _ e)
  have IH : Inv (blkH X p sC HC scope ce fp) [] (L2.wipe σ (own.map (·.2))) HC sE := by
    refine inv_blkH IE ⟨?_, PC.2.1, by rw [locs]; exact Nat.ne_of_lt pold, fun m => (List.mem_cons.mp (IC.stkSub p.1 m)).elim PC.2.2.1 PC.2.2.2.1, PC.2.2.2.2⟩
    rw [← eE]
    exact pushCells_keeps _ _ _ _ (Heap.get?_push_of_some _ PC.1)
  have hotB : L2H.HotC (blkH X p sC HC scope ce fp) := ⟨p, hot, List.mem_cons_self⟩
  have nop : ∀ b ∈ fp, p.1 ≠ b := fun b hb => (fC b hb).1.2.2.2.2.2 p (List.mem_append_left _ hpn)
  have stay : ∀ {σ' : L2.St} {H' : Hp} {s' : Shared}, Inv (blkH X p sC HC scope ce fp) [] σ' H' s' → (∀ b ∈ fp, H' b = none) → ∀ b ∈ fp, FpOk (blkH X p sC HC scope ce fp) [] H' b := fun {σ' H' s'} I' hn b hb =>
    ⟨hn b hb, (I'.ok.exf b hb).1, I'.ok.exfs b hb, .inl hb, fun x c e => (I'.ok.exf b hb).2 x c e, fun q hq => by
      have : q = p := by simpa using (show q ∈ [p] ++ ([] : List (Addr × Obj)) from hq)
      rw [this]; exact nop b hb⟩
  refine codeAny_compStart_list ?loop (T.self X.A 0 _ _ _ stE ?loop)
  case loop =>
  refine compLoop_any (fun n s' => ∃ i H', Inv (blkH X p sC HC scope ce fp) [] (L2.wipe σ (own.map (·.2))) H' s' ∧ tn i s'.heap ∧ (∀ b ∈ fp, H' b = none) ∧ W i n H') ?_ m0 ⟨0, HC, IH, stE, nofp, w0⟩
  rintro n sF ⟨i, HF, IF, stF, nF, wF⟩
  rcases turn i n HF wF with ⟨stop, qq⟩ | ⟨go, Nx, hNx, step⟩
  · refine thnF (T.done (blkH X p sC HC scope ce fp) rfl rfl rfl hotB i [] sF _ HF (fun _ _ => False) IF (stay IF nF) stF stop) fun r sG ⟨hr, IG⟩ => ?_
    subst hr
    have IX : Inv X pins σ HF sG := IC.call' (ch := fp) IG.os IG.base IG.hok IG.bare fun b hb => ⟨(fC b hb).1.2.2.2.1, (fC b hb).1.2.1, (fC b hb).1.2.2.2.2.1, (fC b hb).1.2.2.2.2.2⟩
    have nC : HF sC.heap.objs.size = none := by
      have z : HF ce.locals = none := IG.free
      rw [locs] at z
      exact z
    obtain ⟨m, hn, _⟩ := IG.loc
    have hn : sG.heap.Ns ce.locals m := hn
    rw [locs] at hn
    exact back D sC.heap.objs.size sG m HF IX qq hn (IC.fpOk (Nat.le_refl _) nC)
  · refine thnF (T.item (blkH X p sC HC scope ce fp) rfl rfl rfl hotB i [] sF _ HF (fun _ _ => False) IF (stay IF nF) stF go) fun r sG ⟨u, hr, hG⟩ => ?_
    subst hr
    refine thnF hG fun _ sK ⟨x, HK, IK, rK, yK, stK, nK⟩ => ?_
    refine thnF (kg.run _ sK _ HK x u _ (IK.pinned (stay IK nK) (T.obj _ _ stK)) rK (step x HK yK)) fun _ sL ⟨σL, HL, IL, wpL, qL⟩ => ?_
    refine thnF (kt.run _ sL σL HL _ IL qL) fun bo sM ⟨HM, IM, qM⟩ => ?_
    have fin : ∀ {s' : Shared} {H' : Hp}, Inv (blkH X p sC HC scope ce fp) ([] ++ pinsAt fp sK.heap) σL H' s' → Nx H' → ∃ m, m < n ∧ ∃ i H', Inv (blkH X p sC HC scope ce fp) [] (L2.wipe σ (own.map (·.2))) H' s' ∧ tn i s'.heap ∧ (∀ b ∈ fp, H' b = none) ∧ W i m H' := fun {s' H'} I' nx => by
      obtain ⟨m', hm, w'⟩ := hNx H' nx
      have held : ∀ b ∈ fp, ∀ o, sK.heap.get? b = some o → s'.heap.get? b = some o ∧ H' b = none := fun b hb o e =>
        let z := I'.pin (b, o) (List.mem_append_right _ (List.mem_append_right _ (mem_pinsAt hb e)))
        ⟨z.1, z.2.1⟩
      refine ⟨m', hm, i + 1, H', (I'.unpinned (pins := [])).weak (by rw [← wpL, wipe_length]) (fun j v e => (wipe_some (wpL ▸ e)).1), T.keep _ _ _ stK fun b hb o e => (held b hb o e).1, fun b hb => ?_, w'⟩
      obtain ⟨o, e, _⟩ := T.obj _ _ stK b hb
      exact (held b hb o e).2
    cases bo with
    | false =>
      simp only [Bool.false_eq_true, if_false] at qM ⊢
      exact fin IM qM
    | true =>
      simp only [if_true] at qM ⊢
      refine thnF (ke.run _ sM σL HM _ IM qM) fun z sN ⟨yv, HN, IN, rN, acc, hDN, hzN, nx⟩ => ?_
      exact app_ok (X := blkH X p sC HC scope ce fp) IN hDN hzN rN fun sO IO => fin IO nx
theorem pe_lcH {elt tg iter : Expr} {ifs : List Expr} {scope : Scope} {own : List (Str × Nat)} {pos : Pos} {wi : TI} {g : TG} {tt : TT} {te : TE} {p : Addr × Obj} (hot : L2H.Hot1 X.A p) (hpn : p ∈ X.pn) (nd : X.N.Nodup) (pit : L2H.PIH X tg iter wi) (ok : BlkOk X.N X.env.scope scope own)
    (pg : ∀ (s : Shared) (H : Hp) (C : Addr) (cl : List (Str × Addr)) (fp : List Addr), PG (blkH X p s H scope (compEnvC scope cl C X.env) fp) tg g) (pt : ∀ (s : Shared) (H : Hp) (C : Addr) (cl : List (Str × Addr)) (fp : List Addr), PTs (blkH X p s H scope (compEnvC scope cl C X.env) fp) ifs tt)
    (pe : ∀ (s : Shared) (H : Hp) (C : Addr) (cl : List (Str × Addr)) (fp : List Addr), PE (blkH X p s H scope (compEnvC scope cl C X.env) fp) elt te) (fo : ∀ x, foldedSetIterable iter X.env x = pure x) :
    PE X (.ListComp elt [⟨tg, iter, ifs, 0⟩] scope pos) (tLc wi g tt te (own.map (·.2))) := by
  refine ⟨fun pins s σ H Q I h => ?_⟩
  rw [eval_ListComp]
  refine lcH_core hot hpn nd I pit ok pg pt pe fo h fun D C s' m H' I' q hn ⟨f0, f1, f2, f3, f4, f5⟩ => ⟨m, hn, fun h2 sb => ?_⟩
  exact ⟨.ref D, H', I'.turned (t' := s'.toks) (fun b o hb e => (sb.2 b hb).trans e) f0 f1 f3 f4 f5, rfl, q⟩
theorem ps_setLcH {i : Nat} {y : Str} {py : Pos} {elt tg iter : Expr} {ifs : List Expr} {scope : Scope} {own : List (Str × Nat)} {pos spos : Pos} {wi : TI} {g : TG} {tt : TT} {te : TE} {p : Addr × Obj} (hot : L2H.Hot1 X.A p) (hpn : p ∈ X.pn) (nd : X.N.Nodup) (hy : X.N[i]? = some y) (hyl : X.env.scope.names.lookup y = some .local)
    (hsw : swapsWith (.ListComp elt [⟨tg, iter, ifs, 0⟩] scope pos) (some (.Name y py)) spos.line X.env = pure true) (pit : L2H.PIH X tg iter wi) (ok : BlkOk X.N X.env.scope scope own)
    (pg : ∀ (s : Shared) (H : Hp) (C : Addr) (cl : List (Str × Addr)) (fp : List Addr), PG (blkH X p s H scope (compEnvC scope cl C X.env) fp) tg g) (pt : ∀ (s : Shared) (H : Hp) (C : Addr) (cl : List (Str × Addr)) (fp : List Addr), PTs (blkH X p s H scope (compEnvC scope cl C X.env) fp) ifs tt)
    (pe : ∀ (s : Shared) (H : Hp) (C : Addr) (cl : List (Str × Addr)) (fp : List Addr), PE (blkH X p s H scope (compEnvC scope cl C X.env) fp) elt te) (fo : ∀ x, foldedSetIterable iter X.env x = pure x) :
    PS X (.Assign [.Name y py] (.ListComp elt [⟨tg, iter, ifs, 0⟩] scope pos) spos) (tAsg (tLc wi g tt te (own.map (·.2))) (gName i)) := by
  refine ⟨fun pins s σ H Dn I h => ?_⟩
  rw [exec_Assign_Name_used _ _ _ _ hsw]
  refine wpAny_bind (wpAny_standAt (wpAny_bind ?_))
  show wpAny _ X.A (comprehension (.ListComp elt [⟨tg, iter, ifs, 0⟩] scope pos) scope X.env (firstIterPos [⟨tg, iter, ifs, 0⟩] pos) (newList []) false (eval iter X.env) (some (assign (.Name y py) X.env)) >>= fun _ => _) _ _ s
  have h : tLc wi g tt te (own.map (·.2)) σ H (fun x H1 => gName i x σ H1 Dn.nx) := h
  refine wpAny_bind (thn (lcH_core (Qf := fun _ s' => SP X pins Dn .next s') hot hpn nd I pit ok pg pt pe fo h fun L C s' m H' I' q hn ⟨f0, f1, f2, f3, f4, f5⟩ => ?_) fun _ s' hq => wpAny_pure (wpAny_pure hq))
  show wpAny _ _ (assign (.Name y py) X.env (.ref L)) _ _ _
  refine wpAny_assign_Name (store_ok2 (v := V.ref L) I' nd hy (.inl hyl) rfl (fun sT IT ⟨a, sb, ha⟩ => ?_) (.inr hyl))
  have ne : C ≠ a := ha.elim (fun z => z ▸ f1) fun z e => f4 y a z e.symm
  exact ⟨m, hn.sameBut sb ne, fun hU sbU => ⟨_, H', IT.turned (t' := sT.toks) (fun b o hb e => (sbU.2 b hb).trans e) f0 f1 f3 f4 f5, q⟩⟩
end
end VS
namespace VS
open PySem PySem.Spec PyProof.Rows L2

/-! ### a def that tells an exception that is handled -/
section
variable {P : Program} {w : World} {K : PySem.W.Frag} {mg : Str → Option Value} {base : Heap}
/-- handed the exception of class y that is handled, the def answers z -/
def Tells (P : Program) (w : World) (K : PySem.W.Frag) (mg : Str → Option Value) (base : Heap) (k : Nat) (f : Addr) (fd : FuncData) (x y z : Str) : Prop :=
  ∀ (A : Around) (outer : List PySem.Env) (s : Shared) (H : Hp) (p : Addr × Obj) (C : Addr) (Q : VK) (E : XK), L2H.RoomH k A → L2H.Hot1 A p → L2H.PinOk outer H s p → Env0 P w K mg base A outer s H → BindsTo s fd ⟨[.ref p.1], []⟩ [(x, .ref p.1)] →
    mg y = some (.ref C) → p.2.cls = .ref C → p.2.dict = none → (∀ H', Same H H' → Q (.str z) H') → codeAny (model P w) A (.call (.ref f) ⟨[.ref p.1], []⟩) (CR (L2N.CX P w) outer P w H s Q E) s
/-- its body's entry: the slot 0 is the exception's -/
def jcE (H : Hp) (a : Addr) : JC := ⟨fun _ => none, H, [0], fun i => if i = 0 then some (.ref a) else none⟩
theorem tells_of {x qual : Str} {params : Arguments} {body : List Stmt} {scope : Scope} {dvs : List V} {kws : List (Str × V)} {f : Addr} {fd : FuncData} {N : List Str} {a y z : Str} {n k : Nat} {t : TSt} (F : FunD K x qual params body scope dvs kws f fd) (Sc : FnScope N [a] scope) (hn : N.length = n)
    {ρz : Env} (hz : t (List.replicate n none) = .rt (.fz (.str z)) ρz)
    (hb : ∀ (cdv : Value) (A : Around) (outer : List PySem.Env) (s : Shared) (H : Hp) (E : XK) (p : Addr × Obj) (C : Addr), L2H.Hot1 A p → L2H.RoomH k (A.deeper (envOfC qual scope s.heap.objs.size f cdv)) → mg y = some (.ref C) → p.2.cls = .ref C → p.2.dict = none →
      PSs (L2H.cxH (L2N.CX P w) P w K mg base N qual scope f cdv A outer s H E p) body (tS (gX (L2H.cxH (L2N.CX P w) P w K mg base N qual scope f cdv A outer s H E p)) (jcE H p.1) wNo t)) :
    Tells P w K mg base (k + 1) f fd a y z := by
  obtain ⟨oc, od, dV, kV, doc, pm, an, cdv, ct, osl, rfl, lk, hcd, _, _⟩ := F.ex
  intro A outer s H p C Q E hr hot hpin e0 bi hy h1 h2 hQ
  have kin : K.In s.heap := e0.mod.kin.keeps fun b o e => (e0.bs b o e).1
  have free : s.heap.NoLimit := e0.mod.nolimit.keeps fun b o e => (e0.bs b o e).1
  have kinds : ∀ v ∈ [(a, Value.ref p.1)], scope.names.lookup v.1 = some .local ∨ (scope.names.lookup v.1 = some .cell ∧ ((cellsFrom (s.heap.objs.size + 1) scope.names []).lookup v.1).isSome = true) := fun v hv => by
    have ev : v = (a, Value.ref p.1) := by simpa using hv
    subst ev
    exact (Sc.par a List.mem_cons_self).imp id fun q => ⟨q, PySem.W.cellsFrom_some _ _ _ (.inl q)⟩
  refine codeAny_call_function hr.depth (kin _ _ lk) rfl Sc.co Sc.gen rfl (PySem.W.codeRec_of kin hcd) (bi _ _ _ _ (wpAny_newFunctionEnv_cells Sc.kind kinds fun env he sA x => ?_))
  subst he
  refine ⟨free.keeps x.toInCall.keep, codeAny_func ?_⟩
  have I : Inv (L2H.cxH (L2N.CX P w) P w K mg base N qual scope f cdv A outer s H E p) [] (L2.start N [V.ref p.1]) H sA := L2H.inv_startH (us := [.ref p.1]) (ps := [a]) Sc hpin e0 rfl (.cons rfl .nil) x
  have nn : 0 < n := by
    have := congrArg List.length Sc.pre
    rw [List.length_take] at this
    have h3 : ([a] : List Str).length = 1 := rfl
    omega
  have j : J (gB K mg) (jcE H p.1) (fun _ => none) (L2.start N [V.ref p.1]) H (List.replicate n none) := by
    refine ⟨?_, (fun _ _ e => nomatch e), .refl, (fun _ => Iff.rfl), (fun _ _ => rfl), fun i s e => ?_, fun i hi v e => ?_⟩
    · unfold L2.start
      simp only [List.length_append, List.length_map, List.length_replicate, List.length_cons, List.length_nil]
      omega
    · rw [List.getElem?_replicate] at e
      split at e <;> cases e
    · have hi : i = 0 := by simpa [jcE] using hi
      subst hi
      have e : some (V.ref p.1) = some v := e
      cases e
      exact start_at rfl
  refine wpAny_mono ((hb cdv A outer s H E p C hot (hr.deeper _) hy h1 h2).run [] sA (L2.start N [V.ref p.1]) H { nx := fun _ _ => False, rt := Q } I (tS_iff.mpr ⟨_, _, j, ?_⟩)) (fun fl s' hs => ?_) fun e s' hs => hs
  · rw [hz]
    exact fun τ' σ' v H' ex _ hv => by
      have : v = .str z := by cases hv with | fz f => cases f; rfl
      subst this
      exact hQ H' fun b o e => (ex b o rfl e).2
  · cases fl with
    | ret u =>
      obtain ⟨v, σ', H', J', rv, q⟩ := hs
      exact ⟨v, H', J'.os, J'.bare, J'.base, J'.hok, rv, q⟩
    | next => obtain ⟨_, _, _, q⟩ := hs; exact q.elim
    | brk => obtain ⟨_, _, _, q⟩ := hs; exact q.elim
    | cont => obtain ⟨_, _, _, q⟩ := hs; exact q.elim
end

/-! ### within: isinstance -/
/-- an exception of class y is, or is not, one of x (own: a class of the text's, else a built-in one) -/
structure IsaK (K : PySem.W.Frag) (mg : Str → Option Value) (y x : Str) (own b : Bool) : Prop where
  ex : ∃ (C : Addr) (cv : Value), mg y = some (.ref C) ∧ ExcC K C ∧ PySem.W.kitOne K (.ref C) cv = some b ∧ ((own = true ∧ ∃ Cx, mg x = some (.ref Cx) ∧ cv = .ref Cx) ∨ own = false ∧ ∃ T, mg x = none ∧ bootBuiltins x = some (.type T) ∧ cv = .type T)
section
variable {X : Cx} {c : JC} {w : WX} {e : Expr} {es : List Expr} {pos p p2 p3 : Pos} {x y : Str}
theorem call_isH {a D : Addr} {oe : Obj} (hpn : (a, oe) ∈ X.pn) (T : ExcC X.K D) (h1 : oe.cls = .ref D) (h2 : oe.dict = none) (hf : ∃ vs, oe.data = .fields vs) : CallR X (.builtin "isinstance") (rIsE X.K D a) := fun pins s σ H xs us Q I r ⟨t, cv, b, e1, hcv, e, q⟩ => by
  subst e1
  obtain ⟨u1, u2, rfl, r1, r2⟩ := vals2 r
  obtain rfl : u1 = Value.ref a := r1
  have ec := hcv _ r2
  subst ec
  have get := (I.pin (a, oe) (List.mem_append_left _ hpn)).1
  obtain ⟨vs, hv⟩ := hf
  have A : PySem.W.InstAt s.heap a oe D none := by
    obtain ⟨oc, od, oda, osl⟩ := oe
    dsimp only at h1 h2 hv
    subst h1 h2 hv
    exact ⟨get, rfl, rfl, trivial⟩
  exact PySem.W.kia_one (PySem.W.handS_kitx_exc T.hg T.hk T.hs T.hd T.ha T.hn T.ht T.hm) I.kIn A e (fun z => nomatch z) fun tk => ⟨.bl b, H, I.kept (t' := tk) fun _ _ z => z, rfl, q⟩
def oBl (b : Bool) : Env → Option OO := fun _ => some (.v (.bl b))
theorem o_isE {i : Nat} {n : Str} {own b : Bool} {q : Addr × Obj} {C : Addr} (hpn : q ∈ X.pn) (hot : L2H.Hot1 X.A q) (hy : X.mg y = some (.ref C)) (h1 : q.2.cls = .ref C) (h2 : q.2.dict = none) (Ik : IsaK X.K X.mg y x own b) (hi : c.vs i = some (.ref q.1)) (him : i ∈ c.mp)
    (hm : X.mg "isinstance" = none) (hgi : Gl X "isinstance") (hgx : Gl X x) (hv : PE X (.Name n p2) (tVar i)) (hnx : x ≠ "__name__" := by decide) (hdx : (x == ("__debug__" : Str)) = false := by decide)
    (hb1 : starEach [.Name x p3] X.env = (false, eval (.Name x p3) X.env) :: starEach [] X.env := by rfl) (he : starEach [.Name n p2, .Name x p3] X.env = (false, eval (.Name n p2) X.env) :: starEach [.Name x p3] X.env := by rfl)
    (hpl : (backTo pos (starEach [.Name x p3] X.env)).any (·.1) = false := by rfl) : PE X (.Call (.Name "isinstance" p) [.Name n p2, .Name x p3] [] pos) (tO (gX X) c (oBl b)) := by
  obtain ⟨C', cv, k1, k2, k3, k4⟩ := Ik.ex
  rw [hy] at k1
  cases k1
  obtain ⟨hh, vs, hvs, _⟩ := hot
  have cr := call_isH (X := X) (a := q.1) (oe := q.2) hpn k2 h1 h2 ⟨vs, hvs⟩
  have fin : ∀ (σ : L2.St) (H : Hp) (Q : VK) (cV : V) (hc : ∀ u, RelV cV u → u = cv), tO (gX X) c (oBl b) σ H Q → tVar i σ H fun v H1 => rIsE X.K C q.1 [v, cV] H1 Q := fun σ H Q cV hc ⟨τ, ρ, j, z⟩ =>
    ⟨.ref q.1, j.pin i him _ hi, cV, cv, b, rfl, hc, k3, z _ H (.refl H) j (.bl b)⟩
  rcases k4 with ⟨_, Cx, m, rfl⟩ | ⟨_, T, m, bo, rfl⟩
  · exact PEw (pe_callB cr hgi hm rfl (pa_cons hv (pa_cons (pe_glob (v := .ref Cx) hgx m rfl hdx) pa_nil hb1) he) (by decide) (by decide) he hpl) fun σ H Q z => fin σ H Q (.ref Cx) (fun u r => r) z
  · exact PEw (pe_callB cr hgi hm rfl (pa_cons hv (pa_cons (pe_bltn (v := .ty T) hgx m bo rfl hnx hdx) pa_nil hb1) he) (by decide) (by decide) he hpl) fun σ H Q z => fin σ H Q (.ty T) (fun u r => r) z
/-! ### comprehensions there -/
theorem ih_rng0 {tg a : Expr} {ta : TV} (hg : Gl X "range") (hm : X.mg "range" = none) (ha : PE X a (tV (gX X) c w ta)) (hp1 : starEach [a] X.env = (false, eval a X.env) :: starEach [] X.env := by rfl) (hs : starEach [a] X.env = [(false, eval a X.env)] := by rfl) : L2H.PIH X tg (.Call (.Name "range" p) [a] [] pos) (tI (gX X) c w (iRng0 ta)) :=
  have h := L2H.pi_range1H (X := X) (tg := tg) (p := p) (pos := pos) hg hm (pa_cons ha pa_nil hp1) hs
  ⟨fun pins s σ H R I q => h.run pins s σ H R I (ii_rng0 σ H R q)⟩
theorem s_setLcH {i : Nat} {n : Str} {py spos : Pos} {elt tg iter : Expr} {ifs : List Expr} {scope : Scope} {own : List (Str × Nat)} {sl : List Nat} {it : TIt} {a : TAs} {b : TB} {t : TV} {q : Addr × Obj} (hot : L2H.Hot1 X.A q) (hpn : q ∈ X.pn) (nd : X.N.Nodup) (hy : X.N[i]? = some n) (hyl : X.env.scope.names.lookup n = some .local)
    (hsw : swapsWith (.ListComp elt [⟨tg, iter, ifs, 0⟩] scope pos) (some (.Name n py)) spos.line X.env = pure true) (pit : L2H.PIH X tg iter (tI (gX X) c w it)) (ok : BlkOk X.N X.env.scope scope own)
    (pg : ∀ (s : Shared) (H : Hp) (C : Addr) (cl : List (Str × Addr)) (fp : List Addr) (τ' : Tg) (H' : Hp), PG (blkH X q s H scope (compEnvC scope cl C X.env) fp) tg (tG (gX X) ⟨τ', H', c.mp, c.vs⟩ sl a))
    (pt : ∀ (s : Shared) (H : Hp) (C : Addr) (cl : List (Str × Addr)) (fp : List Addr) (τ' : Tg) (H' : Hp), PTs (blkH X q s H scope (compEnvC scope cl C X.env) fp) ifs (tTV (gX X) ⟨τ', H', c.mp, c.vs⟩ wNo b))
    (pe : ∀ (s : Shared) (H : Hp) (C : Addr) (cl : List (Str × Addr)) (fp : List Addr) (τ' : Tg) (H' : Hp), PE (blkH X q s H scope (compEnvC scope cl C X.env) fp) elt (tV (gX X) ⟨τ', H', c.mp, c.vs⟩ wNo t))
    (hp : i ∉ c.mp := by exact of_decide_eq_true rfl) (hd : ∀ i ∈ own.map (·.2), i ∉ c.mp := by exact of_decide_eq_true rfl) (hsl : ∀ i ∈ sl, i ∈ own.map (·.2) := by decide) (fo : ∀ x, foldedSetIterable iter X.env x = pure x := by intro _; rfl) :
    PS X (.Assign [.Name n py] (.ListComp elt [⟨tg, iter, ifs, 0⟩] scope pos) spos) (tS (gX X) c w (sSet i (vLc (own.map (·.2)) it a b t))) := by
  let g : TG := fun v σ H Q => ∃ τ' H', tG (gX X) ⟨τ', H', c.mp, c.vs⟩ sl a v σ H Q
  let tt : TT := fun σ H Q => ∃ τ' H', tTV (gX X) ⟨τ', H', c.mp, c.vs⟩ wNo b σ H Q
  let te : TE := fun σ H Q => ∃ τ' H', tV (gX X) ⟨τ', H', c.mp, c.vs⟩ wNo t σ H Q
  refine st_set (ps_setLcH hot hpn nd hy hyl hsw pit ok (g := g) (tt := tt) (te := te) (fun s H C cl fp => ?_) (fun s H C cl fp => ?_) (fun s H C cl fp => ?_) fo) (lc_vs hd hsl _ g tt te (fun _ _ _ h => h) (fun τ' H' _ _ _ _ h => ⟨τ', H', h⟩) (fun τ' H' _ _ _ h => ⟨τ', H', h⟩) fun τ' H' _ _ _ h => ⟨τ', H', h⟩) hp
  · exact ⟨fun pins s1 σ H1 x u Q I r ⟨τ', H', z⟩ => (pg s H C cl fp τ' H').run pins s1 σ H1 x u Q I r z⟩
  · exact ⟨fun pins s1 σ H1 Q I ⟨τ', H', z⟩ => (pt s H C cl fp τ' H').run pins s1 σ H1 Q I z⟩
  · exact ⟨fun pins s1 σ H1 Q I ⟨τ', H', z⟩ => (pe s H C cl fp τ' H').run pins s1 σ H1 Q I z⟩
/-! ### the call of such a def, in the suite -/
structure KnT (P : Program) (w : World) (K : PySem.W.Frag) (mg : Str → Option Value) (base : Heap) (x : Str) (k : Nat) (tab : List (Str × Str)) : Prop where
  ex : ∃ (f : Addr) (fd : FuncData) (a : Str), (∀ r ∈ tab, PyData.strOk r.2 = true ∧ Tells P w K mg base k f fd a r.1 r.2) ∧ mg x = some (.ref f) ∧ PySem.W.keepIn K (.ref f) = true ∧ Binds K fd [a] []
def vTxt (tab : List (Str × Str)) (y : XD) : TV := fun ρ => if y.ns = [] then match tab.lookup y.c with
  | some z => .ok (.fz (.str z), ρ)
  | none => .bad else .bad
theorem look_mem {tab : List (Str × Str)} {y z : Str} (h : tab.lookup y = some z) : (y, z) ∈ tab := PySem.mem_of_lookup h
theorem v_txt {k i : Nat} {n : Str} {a C : Addr} {oe : Obj} {d : Option Addr} {pn : List (Addr × Obj)} {y : XD} {tab : List (Str × Str)} (Kf : KnT X.prog X.w X.K X.mg X.base x k tab) (hr : Room k X.A) (hz : L2N.Zn (.ref C) d oe) (hd : ∃ vs, oe.data = .fields vs) (hC : (gX X).cls y.c = some C) (hdn : y.ns = [] → d = none)
    (hg : Gl X x) (hv : PE (X.suite a ((a, oe) :: pn)) (.Name n p2) (tVar i)) (hdb : (x == ("__debug__" : Str)) = false := by decide)
    (he : starEach [.Name n p2] X.env = (false, eval (.Name n p2) X.env) :: starEach [] X.env := by rfl) (hpl : (backTo pos (starEach [] X.env)).any (·.1) = false := by rfl) :
    PE (X.suite a ((a, oe) :: pn)) (.Call (.Name x p) [.Name n p2] [] pos) (tV (gX X) (c.at i a) wNo (vTxt tab y)) := by
  obtain ⟨f, fd, q, h1, h2, h3, h4⟩ := Kf.ex
  refine ⟨fun pins s σ H Q I ⟨τ, ρ, j, z⟩ => ?_⟩
  unfold vTxt at z
  by_cases hn : y.ns = []
  case neg => rw [if_neg hn] at z; exact z.elim
  rw [if_pos hn] at z
  cases e1 : tab.lookup y.c with
  | none => rw [e1] at z; exact z.elim
  | some zz =>
    rw [e1] at z
    dsimp only at z
    obtain ⟨so, tl⟩ := h1 (y.c, zz) (look_mem e1)
    have hσ : σ[i]? = some (some (.ref a)) := j.pin i List.mem_cons_self _ (if_pos rfl)
    refine wpAny_Call_Name_kw (ld_glob I hg h2 ?_ hdb)
    refine PySem.W.callWith_K (h₀ := X.base) I.ok.mod.kin h3 (thn ((pa_cons hv pa_nil he).run pos pins s σ H (fun vs H1 => vs = [V.ref a] ∧ H1 = H) I ⟨_, hσ, rfl, rfl⟩) fun us s1 ⟨vs, H1, J1, rv, ev, eH⟩ => ⟨J1.kIn, ?_⟩) he hpl
    subst ev eH
    obtain ⟨vs, hvs⟩ := hd
    obtain ⟨u, rfl, ru⟩ := vals1 rv
    obtain rfl : u = Value.ref a := ru
    have P1 := J1.pin (a, oe) (List.mem_append_left _ List.mem_cons_self)
    have bi : BindsTo s1 fd ⟨[.ref a], []⟩ [(q, .ref a)] := h4 s1 [.ref a] J1.kIn rfl
    have hy : X.mg y.c = some (.ref C) := by
      have e : (match X.mg y.c with | some (.ref C) => some C | _ => none) = some C := hC
      split at e
      · rename_i D ee; cases e; exact ee
      · cases e
    refine wpAny_call (codeAny_mono (tl (X.suite a ((a, oe) :: pn)).A (X.suite a ((a, oe) :: pn)).stack s1 H1 (a, oe) C Q (fun _ _ _ => False) ⟨hr.dp, hr.un⟩ ⟨rfl, vs, hvs, hz.2.2 vs hvs⟩ ⟨P1.1, P1.2.1, fun hm => (List.mem_cons.mp (J1.stkSub a hm)).elim P1.2.2.1 P1.2.2.2.1, P1.2.2.2.2⟩ J1.env0 bi hy hz.1 (hz.2.1.trans (hdn hn))
      fun H' sm => z (.str zz) H' τ (.same sm) (j.same sm) (.fz (.str zz so))) fun r s' hq => ?_)
    match r, hq with
    | .error ex, hq => obtain ⟨_, _, _, _, _, _, _, _, _, _, _, _, z⟩ := hq; exact z.elim
    | .ok (.ret u), hq => exact J1.after hq
end
end VS
namespace VS
open PySem PySem.Spec PyProof.Rows L2

/-! ### what is looked at behind the top -/
section
variable {P : Program} {w : World} {K : PySem.W.Frag} {mg : Str → Option Value} {base h : Heap}
theorem exK_of (X : K.In h) (G : h.Ns mainGlobals mg) {x : Str} (c1 : (He.Fa.glo x).ok K = true) (c2 : (He.Fa.exc x).ok K = true) : ExK K mg x :=
  ⟨⟨_, He.glo_ok X G c1, He.exc_ok c2⟩⟩
def excCB (K : PySem.W.Frag) (D : Addr) : Bool :=
  decide (PySem.W.findIn K (.ref D) "__getattribute__" = some (some (.builtin "BaseException.__getattribute__"))) && decide (PySem.W.findIn K (.ref D) "__getattr__" = some none) && decide (PySem.W.subIn K (.ref D) (.type "BaseException") = some true) &&
  PySem.W.hasDictIn K D && decide (PySem.W.findIn K (.ref D) "__class__" = some (some (.builtin "object.__class__"))) && decide (PySem.W.specialIn K (.builtin "object.__class__") "__get__" = some (some (.builtin "getset_descriptor.__get__"))) &&
  decide (PySem.W.takesIn K (.builtin "object.__class__") = some true) && decide (PySem.W.mroIn K D (.type "object") = some true)
theorem excCB_ok {D : Addr} (e : excCB K D = true) : ExcC K D := by
  simp only [excCB, Bool.and_eq_true, decide_eq_true_eq] at e
  obtain ⟨⟨⟨⟨⟨⟨⟨e1, e2⟩, e3⟩, e4⟩, e5⟩, e6⟩, e7⟩, e8⟩ := e
  exact ⟨e1, e2, e3, e4, e5, e6, e7, e8⟩
/-- a class, a class to compare it with (a built-in one by its type's name), the answer -/
structure IsRow where
  y : Str
  x : Str
  t : Option String
  b : Bool
def IsRow.ok (K : PySem.W.Frag) (r : IsRow) : Bool := excCB K (He.ga K r.y) && decide (PySem.W.kitOne K (.ref (He.ga K r.y)) (match r.t with
  | some t => .type t
  | none => .ref (He.ga K r.x)) = some r.b)
theorem isK_own {y x : Str} {b : Bool} (X : K.In h) (G : h.Ns mainGlobals mg) (c1 : (He.Fa.glo y).ok K = true) (c2 : (He.Fa.glo x).ok K = true) (e : (IsRow.mk y x none b).ok K = true) : IsaK K mg y x true b := by
  obtain ⟨e1, e2⟩ := Bool.and_eq_true_iff.mp e
  exact ⟨⟨_, _, He.glo_ok X G c1, excCB_ok e1, of_decide_eq_true e2, .inl ⟨rfl, _, He.glo_ok X G c2, rfl⟩⟩⟩
theorem isK_blt {y x : Str} {t : String} {b : Bool} (X : K.In h) (G : h.Ns mainGlobals mg) (c1 : (He.Fa.glo y).ok K = true) (c2 : (He.Fa.free x).ok K = true) (hv : bootBuiltins x = some (.type t)) (e : (IsRow.mk y x (some t) b).ok K = true) : IsaK K mg y x false b := by
  obtain ⟨e1, e2⟩ := Bool.and_eq_true_iff.mp e
  exact ⟨⟨_, _, He.glo_ok X G c1, excCB_ok e1, of_decide_eq_true e2, .inr ⟨rfl, _, He.free_ok X G c2, hv, rfl⟩⟩⟩
/-- an except clause's class takes these -/
theorem takesC_of (X : K.In h) (G : h.Ns mainGlobals mg) {x : Str} {tab : List (Str × Bool)} (hc : ∀ r ∈ tab, (He.Fa.glo r.1).ok K = true ∧ (He.Fa.exm r.1 x r.2).ok K = true) : TakesC (gB K mg) K (fun y => tab.lookup y) (.ref (He.ga K x)) := fun y C b hy hb => by
  obtain ⟨c1, c2⟩ := hc (y, b) (PySem.mem_of_lookup hb)
  have e := He.glo_ok X G c1
  have hy : (match mg y with | some (.ref C) => some C | _ => none) = some C := hy
  rw [e] at hy
  cases hy
  exact He.exm_ok c2
theorem kn_of {x : Str} {f : Addr} {fd : FuncData} {ps : List Str} {k np : Nat} {mp : List Nat} {dds : List D} {dvs : List V} {fs : List S → FR} (ok : FnOk P w K mg base (L2N.CX P w) k f fd ps (spOf (gB K mg) np mp fs)) (hm : mg x = some (.ref f)) (hk : PySem.W.keepIn K (.ref f) = true)
    (hb : ∃ ds, Vals dvs ds ∧ Binds K fd ps ds) (hd : Consts dvs dds) (hnp : ∀ ss, fs ss ≠ .bad → ss.length = np) (hmp : ∀ i ∈ mp, i + dds.length < np) : Kn P w K mg base x k np mp dds fs :=
  let ⟨ds, a, b⟩ := hb
  ⟨⟨f, fd, ps, dvs, ds, ok, hm, hk, b, a, hd⟩, hnp, hmp⟩
theorem binds_all {x qual : Str} {params : Arguments} {body : List Stmt} {scope : Scope} {kws : List (Str × V)} {f : Addr} {fd : FuncData} {ps : List Str} (F : FunD K x qual params body scope [] kws f fd)
    (h : ∀ (kV doc pm : Value) (an : Option Addr) (cdv ct : Value) (us : List Value), us.length = ps.length → bindArgs (PySem.W.fnOf x qual params body scope .none kV doc pm an cdv ct) ⟨us, []⟩ = pure (ps.zip us)) : ∃ ds, Vals [] ds ∧ Binds K fd ps ds := ⟨[], .nil, F.bindsN h⟩
theorem fn_bad {f : Addr} {fd : FuncData} {ps : List Str} {k np : Nat} {mp : List Nat} (hn : ps.length = np) : FnOk P w K mg base (L2N.CX P w) k f fd ps (spOf (gB K mg) np mp fun _ => .bad) :=
  ⟨fun vs H Q E h => h.1.trans hn.symm, fun A outer s H args us vs Q E hr he hb hv hs => by
    obtain ⟨_, τ, ss, _, _, _, q⟩ := hs
    exact q.elim⟩
end
/-! ### the law -/
theorem cx_no {P : Program} {w : World} {outer : List PySem.Env} {H : Hp} {s : Shared} {e : Value} {s' : Shared} (c : L2N.CX P w outer H s (fun _ _ _ => False) e s') : False := by
  obtain ⟨_, _, _, _, _, _, _, _, _, _, _, _, z⟩ := c
  exact z
theorem walk_vs {l : PySem.W.OpenLaw} {n k : Nat} {q : Program} {loose : List Str} {XP : (Str → Option Value) → Heap → Prop} {YP : World → Heap → Prop} {d : DefRec} {x : Str}
    (hn : l.most = some n) (hn2 : n ≤ sizeLine) (hdf : d.params.defaults = []) (hr : Room k callerA)
    (F : ∀ (w : World) (mg : Str → Option Value) (fa : Addr) (h : Heap), YP w h → h.Ns mainGlobals mg → mg d.name = some (.ref fa) →
      ∃ (K : PySem.W.Frag) (fd : FuncData) (fs : List S → FR), K.In h ∧ (∀ (s : Shared) (u : Value), BindsTo s fd ⟨[u], []⟩ [(x, u)]) ∧ (∀ ns : List Int, ns.length ≤ n → fs [.fz (.scr ns)] = .ok (.fz (.bl true)) []) ∧
        ∀ base : Heap, K.In base → base.Ns mainGlobals mg → FnOk l.prog w K mg base (L2N.CX l.prog w) k fa fd [x] (spOf (gB K mg) 1 [] fs)) :
    PySem.W.WalkO q loose XP YP l.row.toRowW d [] (fun f vs => PySem.call f vs) := by
  refine Att.attach_call hn hdf fun w s₀ s₁ mg mb fa o pm cd doc a vs ns G Y ho hd hcd hmg hobj hints hlen hg => ?_
  obtain ⟨K, fd, fs, KX, hb, hfs, hF⟩ := F w mg fa _ Y G.T.g hmg
  refine law_call KX G.T.g G.T.b G.T.builtins G.T.nolimit hg hobj hints (Nat.le_trans hlen hn2) hr hF hb (fun H hO hS => ?_) fun H e s' c => cx_no c
  have sc : VS.F (gB K mg) (fun _ => none) H (.ref a) (.scr ns) := by
    rcases hS with (z | ⟨o, z⟩) | z
    · rcases hO a with y | ⟨o, xs, y⟩ <;> rw [z] at y <;> cases y
    · exact .scr (.inl ⟨o, z, rfl⟩)
    · exact .scr (.inr (.inr z))
  refine ⟨rfl, fun _ => none, [.fz (.scr ns)], ⟨rfl, fun i s e => ?_⟩, fun i s e _ => ?_, (fun _ _ e => nomatch e), ?_⟩
  · cases i with
    | zero => cases e; exact ⟨_, rfl, .fz sc⟩
    | succ i => cases e
  · cases i with
    | zero => cases e; rfl
    | succ i => cases e
  · rw [hfs ns hlen]
    intro v H' τ' _ _ hv
    cases hv with
    | fz f => cases f; rfl
end VS
namespace VS
open PySem PySem.Spec PyProof.Rows L2

/-- an own class in an except clause, and whom it takes -/
structure TakesK (K : PySem.W.Frag) (mg : Str → Option Value) (x : Str) (tab : List (Str × Bool)) : Prop where
  ex : ∃ C, mg x = some (.ref C) ∧ TakesC (gB K mg) K (fun y => tab.lookup y) (.ref C)
theorem takesK_of {K : PySem.W.Frag} {mg : Str → Option Value} {h : Heap} (X : K.In h) (G : h.Ns mainGlobals mg) {x : Str} {tab : List (Str × Bool)} (c0 : (He.Fa.glo x).ok K = true) (hc : ∀ r ∈ tab, (He.Fa.glo r.1).ok K = true ∧ (He.Fa.exm r.1 x r.2).ok K = true) : TakesK K mg x tab :=
  ⟨_, He.glo_ok X G c0, takesC_of X G hc⟩
section
variable {X : Cx} {c : JC} {w : WX} {pos : Pos}
theorem s_tryAsK {i : Nat} {x n : Str} {tab : List (Str × Bool)} {body suite : List Stmt} {b₀ : Stmt} {np pos' : Pos} {t : TSt} {u : XD → TSt} (hs : X.stack = X.env :: X.outer) (hf : X.env.frame = some X.env.locals) (hN : X.N.Nodup) (hi : X.N[i]? = some n) (hln : X.env.kindOf n = some .local) (T : TakesK X.K X.mg x tab) (hg : Gl X x)
    (tk : L2N.Takes X w) (hb : ∀ (W' : WX) (pn : List (Addr × Obj)) (xe : Value → Shared → Prop), L2N.Takes (X.tr pn xe) W' → PassesOwn (model X.prog X.w) X.A X.env xe → PSs (X.tr pn xe) body (tS (gX X) c W' t))
    (hsu : ∀ (a C : Addr) (oe : Obj) (d : Option Addr) (pn : List (Addr × Obj)) (y : XD), L2N.Zn (.ref C) d oe → (∃ vs, oe.data = .fields vs) → (gX X).cls y.c = some C → (y.ns = [] → d = none) → PSs (X.suite a ((a, oe) :: pn)) (b₀ :: suite) (tS (gX X) (c.at i a) wNo (u y)))
    (hp : i ∉ c.mp := by exact of_decide_eq_true rfl) (hdb : (x == ("__debug__" : Str)) = false := by decide) :
    PS X (.Try body [.ExceptHandler (some (.Name x np)) (some n) (b₀ :: suite) pos'] [] [] pos) (tS (gX X) c w (sTryAs t i (fun y => tab.lookup y) u)) := by
  obtain ⟨C, h1, h2⟩ := T.ex
  exact s_tryAs hs hf hN hi hln ⟨hg, hdb, .inl h1⟩ tk h2 hp hb hsu
theorem hds_consK {x : Str} {tab : List (Str × Bool)} {t : TSt} {b₀ : Stmt} {suite : List Stmt} {np pos' : Pos} {hds : List ExceptHandler} {l : List Hd} (T : TakesK X.K X.mg x tab) (hg : Gl X x)
    (hsu : ∀ (a : Addr) (oe : Obj) (pn : List (Addr × Obj)), PSs (X.suite a ((a, oe) :: pn)) (b₀ :: suite) (tS (gX X) c wNo t)) (r : Hds X c hds l) (hdb : (x == ("__debug__" : Str)) = false := by decide) :
    Hds X c (.ExceptHandler (some (.Name x np)) none (b₀ :: suite) pos' :: hds) ((fun y => tab.lookup y, t) :: l) := by
  obtain ⟨C, h1, h2⟩ := T.ex
  exact .cons ⟨hg, hdb, .inl h1⟩ h2 hsu r
end
theorem hu_ofH {k : Nat} {A : Around} (r : L2H.RoomH k A) : A.units + 65 < cLine := by have := r.un; omega
theorem hu_ofH1 {k : Nat} {A : Around} (r : L2H.RoomH k A) : A.units + 64 < cLine := by have := r.un; omega
def rtTxt : Out → Option Str
  | .rt (.fz (.str z)) _ => some z
  | _ => none
theorem rtTxt_ok {o : Out} {z : Str} (h : rtTxt o = some z) : ∃ ρ, o = .rt (.fz (.str z)) ρ := by
  unfold rtTxt at h
  split at h
  · cases h; exact ⟨_, rfl⟩
  · cases h
section
variable {P : Program} {w : World} {K : PySem.W.Frag} {mg : Str → Option Value} {base h : Heap}
theorem knT_of {x a : Str} {f : Addr} {fd : FuncData} {k : Nat} {tab : List (Str × Str)} (ht : ∀ r ∈ tab, PyData.strOk r.2 = true ∧ Tells P w K mg base k f fd a r.1 r.2) (hm : mg x = some (.ref f)) (hk : PySem.W.keepIn K (.ref f) = true) (hb : ∃ ds, Vals [] ds ∧ Binds K fd [a] ds) : KnT P w K mg base x k tab := by
  obtain ⟨ds, r, b⟩ := hb
  cases r
  exact ⟨⟨f, fd, a, ht, hm, hk, b⟩⟩
end
end VS
namespace VS
open PySem PySem.Spec PyProof.Rows L2
/-! ### reckoning with meanings: each word's answer, by the answers of its parts -/
section
variable {α β : Type} {ρ ρ' : Env} {a b : TB} {t u t' : TV} {q q' : TQ} {s s' : S} {d d' e : D}
theorem e_thok {a : α} {k : α → Env → R β} : R.th (.ok (a, ρ)) k = k a ρ := Eq.trans rfl rfl
theorem e_thexc {x : XD} {k : α → Env → R β} : R.th (.exc x ρ) k = .exc x ρ := Eq.trans rfl rfl
theorem e_stok {a : α} {k : α → Env → Out} : R.st (.ok (a, ρ)) k = k a ρ := Eq.trans rfl rfl
theorem e_stexc {x : XD} {k : α → Env → Out} : R.st (.exc x ρ) k = .exc x ρ := Eq.trans rfl rfl
theorem e_onx {k : TSt} : Out.th (.nx ρ) k = k ρ := Eq.trans rfl rfl
theorem e_ort {k : TSt} : Out.th (.rt s ρ) k = .rt s ρ := Eq.trans rfl rfl
theorem e_obk {k : TSt} : Out.th (.bk ρ) k = .bk ρ := Eq.trans rfl rfl
theorem e_oct {k : TSt} : Out.th (.ct ρ) k = .ct ρ := Eq.trans rfl rfl
theorem e_oexc {x : XD} {k : TSt} : Out.th (.exc x ρ) k = .exc x ρ := Eq.trans rfl rfl
/-- of an operator's answer -/
def rO (ρ : Env) : Option OO → R (S × Env)
  | some (.v d) => .ok (.fz d, ρ)
  | some (.n s) => .ok (s, ρ)
  | none => .bad
def qO : Option OO → Option S
  | some (.v d) => some (.fz d)
  | some (.n s) => some (.fz s.fr)
  | none => none
def rS (ρ : Env) : Option S → R (S × Env)
  | some (.fz d) => .ok (.fz d, ρ)
  | _ => .bad
def rB (ρ : Env) : Option Bool → R (Bool × Env)
  | some b => .ok (b, ρ)
  | none => .bad
def rV (ρ : Env) (i : Nat) : Option (Option S) → R (S × Env)
  | some (some s) => .ok (.fz s.fr, ρ.set i (some (.fz s.fr)))
  | _ => .bad
def rM (ρ : Env) (i : Nat) : Option (Option S) → R (S × Env)
  | some (some s) => .ok (s, ρ.set i none)
  | _ => .bad
def qS : Option (Option S) → Option S
  | some (some s) => some s
  | _ => none
theorem e_rOv : rO ρ (some (.v d)) = .ok (.fz d, ρ) := Eq.trans rfl rfl
theorem e_rOn : rO ρ (some (.n s)) = .ok (s, ρ) := Eq.trans rfl rfl
theorem e_qOv : qO (some (.v d)) = some (.fz d) := Eq.trans rfl rfl
theorem e_qOn : qO (some (.n s)) = some (.fz s.fr) := Eq.trans rfl rfl
theorem e_rS : rS ρ (some (.fz d)) = .ok (.fz d, ρ) := Eq.trans rfl rfl
theorem e_rB {b : Bool} : rB ρ (some b) = .ok (b, ρ) := Eq.trans rfl rfl
theorem e_rV {i : Nat} : rV ρ i (some (some s)) = .ok (.fz s.fr, ρ.set i (some (.fz s.fr))) := Eq.trans rfl rfl
theorem e_rM {i : Nat} : rM ρ i (some (some s)) = .ok (s, ρ.set i none) := Eq.trans rfl rfl
theorem e_qS : qS (some (some s)) = some s := Eq.trans rfl rfl
theorem e_oV {f : Env → Option OO} : oV f ρ = rO ρ (f ρ) := by unfold oV rO; cases f ρ with | none => rfl | some o => cases o <;> rfl
theorem e_oQ {f : Env → Option OO} : oQ f ρ = qO (f ρ) := by unfold oQ qO; cases f ρ with | none => rfl | some o => cases o <;> rfl
theorem e_vQ : vQ q ρ = rS ρ (q ρ) := by unfold vQ rS; cases q ρ with | none => rfl | some o => cases o <;> rfl
theorem e_qVar {i : Nat} : qVar i ρ = qS ρ[i]? := by unfold qVar qS; rfl
theorem e_qC : qC d ρ = some (.fz d) := Eq.trans rfl rfl
theorem e_vVar {i : Nat} : vVar i ρ = rV ρ i ρ[i]? := Eq.trans rfl rfl
theorem e_vMove {i : Nat} : vMove i ρ = rM ρ i ρ[i]? := Eq.trans rfl rfl
theorem e_o1 {f : D → Option OO} : o1 f q ρ = (q ρ).bind fun s => f s.fr := Eq.trans rfl rfl
theorem e_o2 {f : D → D → Option OO} : o2 f q q' ρ = (q ρ).bind fun s => (q' ρ).bind fun s' => f s.fr s'.fr := Eq.trans rfl rfl
theorem e_v1 {f : D → Option OO} : v1 f t ρ = (t ρ).th fun s ρ1 => rO ρ1 (f s.fr) := by unfold v1; congr
theorem e_v2 {f : D → D → Option OO} : v2 f t u ρ = (t ρ).th fun s ρ1 => (u ρ1).th fun s' ρ2 => rO ρ2 (f s.fr s'.fr) := by unfold v2; congr
theorem e_bind {x : α} {f : α → Option β} : (some x).bind f = f x := Eq.trans rfl rfl
theorem e_frz : (S.fz d).fr = d := Eq.trans rfl rfl
theorem e_frl {ds : List D} : (S.lst ds).fr = .lst ds := Eq.trans rfl rfl
theorem e_seq {x y : TSt} : sSeq x y ρ = (x ρ).th y := Eq.trans rfl rfl
theorem e_set {i : Nat} : sSet i t ρ = (t ρ).st fun s ρ' => .nx (ρ'.set i (some s)) := Eq.trans rfl rfl
theorem e_ret : sRet t ρ = (t ρ).st fun s ρ' => .rt s ρ' := Eq.trans rfl rfl
theorem e_drop : sDrop t ρ = (t ρ).st fun _ ρ' => .nx ρ' := Eq.trans rfl rfl
theorem e_pass : sPass ρ = .nx ρ := Eq.trans rfl rfl
theorem e_brk : sBrk ρ = .bk ρ := Eq.trans rfl rfl
theorem e_cnt : sCnt ρ = .ct ρ := Eq.trans rfl rfl
theorem e_raise {x : Str} : sRaise x ρ = .exc { c := x } ρ := Eq.trans rfl rfl
theorem e_raise1 {x : Str} : sRaise1 x t ρ = (t ρ).st fun _ ρ' => .exc { c := x } ρ' := Eq.trans rfl rfl
theorem e_if {x y : TSt} : sIf a x y ρ = (a ρ).st fun k ρ' => if k then x ρ' else y ρ' := Eq.trans rfl rfl
theorem e_bC : bC t ρ = (t ρ).th fun s ρ' => rB ρ' s.bl? := by
  unfold bC; congr
theorem e_bV : bV t ρ = (t ρ).th fun s ρ' => rB ρ' s.tru := by
  unfold bV; congr
def qT (ρ : Env) : Option S → R (Bool × Env)
  | some s => rB ρ s.tru
  | none => .bad
theorem e_qT : qT ρ (some s) = rB ρ s.tru := Eq.trans rfl rfl
theorem e_bQ : bQ q ρ = qT ρ (q ρ) := by
  unfold bQ qT
  cases q ρ with
  | none => rfl
  | some s => rfl
theorem e_bAnd : bAnd a b ρ = (a ρ).th fun k ρ' => if k then b ρ' else .ok (false, ρ') := Eq.trans rfl rfl
theorem e_bOr : bOr a b ρ = (a ρ).th fun k ρ' => if k then .ok (true, ρ') else b ρ' := Eq.trans rfl rfl
theorem e_bNot : bNot a ρ = (a ρ).th fun k ρ' => .ok (!k, ρ') := Eq.trans rfl rfl
theorem e_bYes : bYes ρ = .ok (true, ρ) := Eq.trans rfl rfl
theorem e_bl {x : Bool} : (S.fz (.bl x)).bl? = some x := Eq.trans rfl rfl
theorem e_trub {x : Bool} : (S.fz (.bl x)).tru = some x := Eq.trans rfl rfl
theorem e_trui {x : Int} : (S.fz (.int x)).tru = some (x != 0) := Eq.trans rfl rfl
theorem e_trul {x : List D} : (S.fz (.lst x)).tru = some !x.isEmpty := Eq.trans rfl rfl
theorem e_trut {x : List D} : (S.fz (.tup x)).tru = some !x.isEmpty := Eq.trans rfl rfl
theorem e_trus {x : List D} : (S.lst x).tru = some !x.isEmpty := Eq.trans rfl rfl
theorem e_trun : (S.fz .non).tru = some false := Eq.trans rfl rfl
theorem e_int? {i : Int} : (S.fz (.int i)).int? = some i := Eq.trans rfl rfl
theorem e_vIf : vIf a t u ρ = (a ρ).th fun x ρ1 => if x then t ρ1 else u ρ1 := Eq.trans rfl rfl
def rBl (ρ : Env) (k : Bool → R (S × Env)) : Option Bool → R (S × Env)
  | some b => k b
  | none => .bad
/-! operators -/
theorem e_le {i j : Int} : dLe (.int i) (.int j) = some (.v (.bl (decide (i ≤ j)))) := Eq.trans rfl rfl
theorem e_lt {i j : Int} : dLt (.int i) (.int j) = some (.v (.bl (decide (i < j)))) := Eq.trans rfl rfl
theorem e_ge {i j : Int} : dGe (.int i) (.int j) = some (.v (.bl (decide (j ≤ i)))) := Eq.trans rfl rfl
theorem e_gt {i j : Int} : dGt (.int i) (.int j) = some (.v (.bl (decide (j < i)))) := Eq.trans rfl rfl
theorem e_add {i j : Int} : dAdd (.int i) (.int j) = some (.v (.int (i + j))) := Eq.trans rfl rfl
theorem e_sub {i j : Int} : dSub (.int i) (.int j) = some (.v (.int (i - j))) := Eq.trans rfl rfl
theorem e_neg {i : Int} : dNeg (.int i) = some (.v (.int (-i))) := Eq.trans rfl rfl
theorem e_cat {x y : List D} (h : x.length + y.length ≤ sizeLine) : dAdd (.lst x) (.lst y) = some (.n (.lst (x ++ y))) := by unfold dAdd; exact if_pos h
theorem e_mul {i j : Int} (h : i.natAbs.log2 + j.natAbs.log2 < 1000000) : dMul (.int i) (.int j) = some (.v (.int (i * j))) := by unfold dMul; exact if_pos h
theorem e_div {i j : Int} (h : 0 < j) (h2 : j.natAbs.log2 < 9000) : dDiv (.int i) (.int j) = some (.v (.int (i / j))) := by unfold dDiv; exact if_pos ⟨h, h2⟩
theorem e_mod {i j : Int} (h : 0 < j) : dMod (.int i) (.int j) = some (.v (.int (i % j))) := by unfold dMod; exact if_pos h
theorem e_abs {i : Int} : dAbs (.int i) = some (.v (.int (if i < 0 then -i else i))) := Eq.trans rfl rfl
theorem e_int {i : Int} : dInt (.int i) = some (.v (.int i)) := Eq.trans rfl rfl
theorem e_lenl {x : List D} : dLen (.lst x) = some (.v (.int x.length)) := Eq.trans rfl rfl
theorem e_lent {x : List D} : dLen (.tup x) = some (.v (.int x.length)) := Eq.trans rfl rfl
theorem e_lens {x : List Int} : dLen (.scr x) = some (.v (.int x.length)) := Eq.trans rfl rfl
theorem e_listl {x : List D} : dList (.lst x) = some (.n (.lst x)) := Eq.trans rfl rfl
theorem e_listt {x : List D} : dList (.tup x) = some (.n (.lst x)) := Eq.trans rfl rfl
theorem e_lists {x : List Int} : dList (.scr x) = some (.n (.lst (x.map .int))) := Eq.trans rfl rfl
theorem e_min2 {i j : Int} : dMin2 (.int i) (.int j) = some (.v (.int (if j < i then j else i))) := Eq.trans rfl rfl
theorem e_max2 {i j : Int} : dMax2 (.int i) (.int j) = some (.v (.int (if j > i then j else i))) := Eq.trans rfl rfl
theorem ixN_nat {n i : Nat} (h : i < n) : L2.ixN n (i : Int) = some i := by
  unfold L2.ixN
  rw [if_pos (by omega), if_pos (by omega)]
  rfl
theorem e_ix {x : List D} {i : Int} : dSub1 (.lst x) (.int i) = (L2.atI x i).map .v := by
  show (match (L2.atI x i).map OO.v with | some o => some o | none => dGetX (D.lst x) (D.int i)) = _
  cases L2.atI x i with
  | none => rfl
  | some d => rfl
theorem e_ixt {x : List D} {i : Int} : dSub1 (.tup x) (.int i) = (L2.atI x i).map .v := by
  show (match (L2.atI x i).map OO.v with | some o => some o | none => dGetX (D.tup x) (D.int i)) = _
  cases L2.atI x i with
  | none => rfl
  | some d => rfl
theorem atI_nat {α : Type} {x : List α} {i : Nat} : L2.atI x (i : Int) = x[i]? := by
  unfold L2.atI
  by_cases h : i < x.length
  · rw [ixN_nat h]; rfl
  · rw [List.getElem?_eq_none (by omega)]
    unfold L2.ixN
    rw [if_pos (by omega), if_neg (by omega)]
    rfl
theorem atI_0 {α : Type} {x : List α} : L2.atI x 0 = x[0]? := atI_nat (i := 0)
theorem atI_1 {α : Type} {x : List α} : L2.atI x 1 = x[1]? := atI_nat (i := 1)
theorem atI_2 {α : Type} {x : List α} : L2.atI x 2 = x[2]? := atI_nat (i := 2)
theorem atI_3 {α : Type} {x : List α} : L2.atI x 3 = x[3]? := atI_nat (i := 3)
theorem atI_4 {α : Type} {x : List α} : L2.atI x 4 = x[4]? := atI_nat (i := 4)
theorem e_mapv {d : D} : (some d).map OO.v = some (.v d) := Eq.trans rfl rfl
theorem e_put {x : List D} {i : Nat} (h : i < x.length) : S.put (.lst x) (.int (i : Int)) d = some (.lst (x.set i d)) := by
  show (L2.ixN x.length (i : Int)).map _ = _
  rw [ixN_nat h]
  rfl
theorem e_put1 {x : List D} (h : 1 < x.length) : S.put (.lst x) (.int 1) d = some (.lst (x.set 1 d)) := e_put (i := 1) h
theorem e_put2 {x : List D} (h : 2 < x.length) : S.put (.lst x) (.int 2) d = some (.lst (x.set 2 d)) := e_put (i := 2) h
theorem e_put3 {x : List D} (h : 3 < x.length) : S.put (.lst x) (.int 3) d = some (.lst (x.set 3 d)) := e_put (i := 3) h
theorem e_put4 {x : List D} (h : 4 < x.length) : S.put (.lst x) (.int 4) d = some (.lst (x.set 4 d)) := e_put (i := 4) h
def pO (ρ : Env) (i : Nat) : Option S → Out
  | some o => .nx (ρ.set i (some o))
  | none => .bad
def pP (ρ : Env) (i : Nat) (d : D) : Option (Option S) → Option S → Out
  | some (some o), some k => pO ρ i (o.put k.fr d)
  | _, _ => .bad
theorem e_pO {i : Nat} : pO ρ i (some s) = .nx (ρ.set i (some s)) := Eq.trans rfl rfl
theorem e_pP {i : Nat} {d : D} : pP ρ i d (some (some s)) (some s') = pO ρ i (s.put s'.fr d) := Eq.trans rfl rfl
theorem e_sPut {i : Nat} : sPut i t q ρ = (t ρ).st fun s ρ1 => pP ρ1 i s.fr ρ1[i]? (q ρ1) := by
  unfold sPut
  congr
/-! calls -/
theorem e_aNo : aNo ρ = .ok ([], ρ) := Eq.trans rfl rfl
theorem e_aFz {v : TAv} : aFz t v ρ = (t ρ).th fun s ρ1 => (v ρ1).th fun as ρ2 => .ok (.fz s.fr :: as, ρ2) := Eq.trans rfl rfl
def aS (r : R (List AV × Env)) : Option (Option S) → R (List AV × Env)
  | some (some _) => r
  | _ => .bad
theorem e_aS {r : R (List AV × Env)} : aS r (some (some s)) = r := Eq.trans rfl rfl
theorem e_aSl {i : Nat} {v : TAv} : aSl i v ρ = aS ((v ρ).th fun as ρ2 => .ok (.sl i :: as, ρ2)) ρ[i]? := by
  unfold aSl aS; rfl
def gS (r : Option (List S)) : Option (Option S) → Option (List S)
  | some (some s) => r.map (s :: ·)
  | _ => none
theorem e_gS {r : List S} : gS (some r) (some (some s)) = some (s :: r) := Eq.trans rfl rfl
theorem e_argN : argS ρ [] = some [] := Eq.trans rfl rfl
theorem e_argF {r : List AV} : argS ρ (.fz d :: r) = (argS ρ r).map (.fz d :: ·) := Eq.trans rfl rfl
theorem e_argL {r : List AV} {i : Nat} : argS ρ (.sl i :: r) = gS (argS ρ r) ρ[i]? := by
  show (match ρ[i]? with | some (some s) => (argS ρ r).map (s :: ·) | _ => none) = _
  unfold gS; rfl
def cF (mp : List Nat) (as : List AV) (ρ : Env) : FR → R (S × Env)
  | .ok s outs => if outs.length = mp.length then .ok (s, putB as mp outs ρ) else .bad
  | .exc x outs => if outs.length = mp.length then .exc x (putB as mp outs ρ) else .bad
  | .bad => .bad
def cA (mp : List Nat) (f : List S → FR) (as : List AV) (ρ : Env) : Option (List S) → R (S × Env)
  | some ss => if (slots as).Nodup ∧ calm mp 0 ss = true then cF mp as ρ (f ss) else .bad
  | none => .bad
theorem e_vCall {mp : List Nat} {f : List S → FR} {v : TAv} : vCall mp f v ρ = (v ρ).th fun as ρ1 => cA mp f as ρ1 (argS ρ1 as) := by
  unfold vCall cA cF; rfl
theorem e_cA {mp : List Nat} {f : List S → FR} {as : List AV} {ss : List S} : cA mp f as ρ (some ss) = if (slots as).Nodup ∧ calm mp 0 ss = true then cF mp as ρ (f ss) else .bad := Eq.trans rfl rfl
theorem e_cFok {mp : List Nat} {as : List AV} {outs : List S} : cF mp as ρ (.ok s outs) = if outs.length = mp.length then .ok (s, putB as mp outs ρ) else .bad := Eq.trans rfl rfl
theorem e_cFexc {mp : List Nat} {as : List AV} {outs : List S} {x : XD} : cF mp as ρ (.exc x outs) = if outs.length = mp.length then .exc x (putB as mp outs ρ) else .bad := Eq.trans rfl rfl
theorem e_fills {dds : List D} {f : List S → FR} {ss : List S} : fills dds f ss = f (ss ++ dds.map S.fz) := Eq.trans rfl rfl
/-! displays -/
def dT (ρ : Env) : Option (List D) → R (S × Env)
  | some ds => if ds.length ≤ sizeLine then .ok (.fz (.tup ds), ρ) else .bad
  | none => .bad
def dL (ρ : Env) : Option (List D) → R (S × Env)
  | some ds => if ds.length ≤ sizeLine then .ok (.lst ds, ρ) else .bad
  | none => .bad
theorem e_qNo : qNo ρ = some [] := Eq.trans rfl rfl
def qA (u : Option (List D)) : Option S → Option (List D)
  | some (.fz d) => u.map (d :: ·)
  | _ => none
theorem e_qA {l : List D} : qA (some l) (some (.fz d)) = some (d :: l) := Eq.trans rfl rfl
theorem e_qAnd {u : Env → Option (List D)} : qAnd q u ρ = qA (u ρ) (q ρ) := by
  unfold qAnd qA
  cases q ρ with
  | none => rfl
  | some s => cases s <;> rfl
def tT (ds : List D) : Option OO := if ds.length ≤ sizeLine then some (.v (.tup ds)) else none
def tL (ds : List D) : Option OO := if ds.length ≤ sizeLine then some (.n (.lst ds)) else none
theorem e_tT {ds : List D} (h : ds.length ≤ sizeLine) : tT ds = some (.v (.tup ds)) := if_pos h
theorem e_tL {ds : List D} (h : ds.length ≤ sizeLine) : tL ds = some (.n (.lst ds)) := if_pos h
theorem e_sz {n : Nat} (h : n ≤ 16777216) : (n ≤ sizeLine) = True := by rw [sizeLine_eq]; exact eq_true h
theorem e_szl {n : Nat} (h : n < 16777216) : (n < sizeLine) = True := by rw [sizeLine_eq]; exact eq_true h
theorem e_oTup {u : Env → Option (List D)} : oTup u ρ = (u ρ).bind tT := by
  unfold oTup
  cases u ρ <;> rfl
theorem e_vLst {v : TAv} : vLst v ρ = (v ρ).th fun as ρ1 => dL ρ1 (allFz as) := by
  unfold vLst
  cases v ρ with
  | bad => rfl
  | exc x ρ' => rfl
  | ok z => rw [e_thok, e_thok]; cases allFz z.1 <;> rfl
theorem e_vTup {v : TAv} : vTup v ρ = (v ρ).th fun as ρ1 => dT ρ1 (allFz as) := by
  unfold vTup
  cases v ρ with
  | bad => rfl
  | exc x ρ' => rfl
  | ok z => rw [e_thok, e_thok]; cases allFz z.1 <;> rfl
theorem e_dL {ds : List D} (h : ds.length ≤ sizeLine) : dL ρ (some ds) = .ok (.lst ds, ρ) := if_pos h
theorem e_dT {ds : List D} (h : ds.length ≤ sizeLine) : dT ρ (some ds) = .ok (.fz (.tup ds), ρ) := if_pos h
theorem e_allN : allFz [] = some [] := Eq.trans rfl rfl
theorem e_allC {r : List AV} : allFz (.fz d :: r) = (allFz r).map (d :: ·) := Eq.trans rfl rfl
def mR (ρ : Env) (i : Nat) : Option (D × List D) → R (S × Env)
  | some (d, ds) => .ok (.fz d, ρ.set i (some (.lst ds)))
  | none => .bad
def mL (f : LM) (ρ : Env) (i : Nat) : Option (List D) → Option (Option S) → R (S × Env)
  | some es, some (some (.lst ds)) => mR ρ i (f ds es)
  | _, _ => .bad
def mS (r : R (S × Env)) : Option (Option S) → R (S × Env)
  | some (some (.lst _)) => r
  | _ => .bad
theorem e_mR {i : Nat} {ds : List D} : mR ρ i (some (d, ds)) = .ok (.fz d, ρ.set i (some (.lst ds))) := Eq.trans rfl rfl
theorem e_mL {f : LM} {i : Nat} {es ds : List D} : mL f ρ i (some es) (some (some (.lst ds))) = mR ρ i (f ds es) := Eq.trans rfl rfl
theorem e_mS {r : R (S × Env)} {ds : List D} : mS r (some (some (.lst ds))) = r := Eq.trans rfl rfl
theorem e_vLm {f : LM} {i : Nat} {v : TAv} : vLm f i v ρ = mS ((v ρ).th fun as ρ1 => mL f ρ1 i (allFz as) ρ1[i]?) ρ[i]? := by
  unfold vLm mS
  have key : ∀ r : R (S × Env), (match lstAt ρ i with | none => R.bad | some _ => r) = match ρ[i]? with | some (some (.lst _)) => r | _ => .bad := fun r => by
    unfold lstAt
    cases ρ[i]? with
    | none => rfl
    | some o => cases o with
      | none => rfl
      | some s => cases s <;> rfl
  refine (key _).trans ?_
  have e : (fun as ρ1 => match allFz as, lstAt ρ1 i with
    | some es, some ds => (match f ds es with
      | some (d, ds') => R.ok (.fz d, ρ1.set i (some (.lst ds')))
      | none => .bad)
    | _, _ => .bad) = fun as ρ1 => mL f ρ1 i (allFz as) ρ1[i]? := by
   funext as ρ1
   unfold mL lstAt
   cases allFz as with
   | none => cases ρ1[i]? with
     | none => rfl
     | some o => cases o with
       | none => rfl
       | some s => cases s <;> rfl
   | some es => cases ρ1[i]? with
     | none => rfl
     | some o => cases o with
       | none => rfl
       | some s => cases s with
         | lst ds =>
           show (match f ds es with | some (d, ds') => R.ok (S.fz d, ρ1.set i (some (S.lst ds'))) | none => R.bad) = mR ρ1 i (f ds es)
           cases f ds es <;> rfl
         | _ => rfl
  exact congrArg (fun k => match ρ[i]? with | some (some (S.lst _)) => (v ρ).th k | _ => R.bad) e
def lA (ρ : Env) (k : Env → R (S × Env)) : Option Bool → R (S × Env)
  | some true => k ρ
  | some false => .ok (.fz (.bl false), ρ)
  | none => .bad
def lO (ρ : Env) (k : Env → R (S × Env)) : Option Bool → R (S × Env)
  | some false => k ρ
  | some true => .ok (.fz (.bl true), ρ)
  | none => .bad
theorem e_lA {k : Env → R (S × Env)} {x : Bool} : lA ρ k (some x) = if x then k ρ else .ok (.fz (.bl false), ρ) := by cases x <;> rfl
theorem e_lO {k : Env → R (S × Env)} {x : Bool} : lO ρ k (some x) = if x then .ok (.fz (.bl true), ρ) else k ρ := by cases x <;> rfl
theorem e_vAnd : vAnd t u ρ = (t ρ).th fun s ρ1 => lA ρ1 u s.bl? := by
  unfold vAnd lA; rfl
theorem e_vOrB : vOrB t u ρ = (t ρ).th fun s ρ1 => lO ρ1 u s.bl? := by
  unfold vOrB lO; rfl
def chA (k : Option OO) : Option OO → Option OO
  | some (.v (.bl true)) => k
  | some (.v (.bl false)) => some (.v (.bl false))
  | _ => none
theorem e_chA {k : Option OO} {x : Bool} : chA k (some (.v (.bl x))) = if x then k else some (.v (.bl false)) := by cases x <;> rfl
theorem e_oCh {f g : D → D → Option OO} {q2 : TQ} : oCh f g q q' q2 ρ = (q ρ).bind fun s => (q' ρ).bind fun s' => chA ((q2 ρ).bind fun s2 => g s'.fr s2.fr) (f s.fr s'.fr) := by
  unfold oCh chA; rfl
theorem e_append {ds : List D} (h : ds.length < sizeLine) : lmAppend ds [d] = some (.non, ds ++ [d]) := by
  show (if ds.length < sizeLine then some (D.non, ds ++ [d]) else none) = _
  exact if_pos h
/-! loops -/
theorem e_sFor {it : TIt} {a : TAs} {t : TSt} : sFor it a t ρ = (it ρ).st fun ds ρ' => forL a t ds ρ' := Eq.trans rfl rfl
def iS (ρ : Env) : Option (List D) → R (List D × Env)
  | some ds => .ok (ds, ρ)
  | none => .bad
theorem e_iS {ds : List D} : iS ρ (some ds) = .ok (ds, ρ) := Eq.trans rfl rfl
theorem e_iSeq : iSeq t ρ = (t ρ).th fun s ρ' => iS ρ' s.fr.items? := by
  unfold iSeq iS; rfl
theorem e_itl {ds : List D} : (D.lst ds).items? = some ds := Eq.trans rfl rfl
theorem e_itt {ds : List D} : (D.tup ds).items? = some ds := Eq.trans rfl rfl
theorem e_its {ns : List Int} : (D.scr ns).items? = some (ns.map .int) := Eq.trans rfl rfl
def iR (ρ : Env) : Option Int → R (List D × Env)
  | some j => if -(2 ^ 62) ≤ j ∧ j < 2 ^ 62 then .ok (rng 0 j, ρ) else .bad
  | none => .bad
/-- a range's bound -/
def Rg (j : Int) : Prop := -(2 ^ 62) ≤ j ∧ j < 2 ^ 62
theorem rg_nat {n : Nat} (h : n < 2 ^ 62) : Rg n := ⟨by omega, by omega⟩
theorem rg_of {j : Int} (h1 : -(2 ^ 62) ≤ j) (h2 : j < 2 ^ 62) : Rg j := ⟨h1, h2⟩
theorem e_iR {j : Int} (h : Rg j) : iR ρ (some j) = .ok (rng 0 j, ρ) := if_pos h
theorem e_iRng0 : iRng0 t ρ = (t ρ).th fun s ρ2 => iR ρ2 s.int? := by
  unfold iRng0
  cases t ρ with
  | bad => rfl
  | exc x ρ' => rfl
  | ok z =>
    obtain ⟨s, ρ'⟩ := z
    rw [e_thok, e_thok]
    cases s.int? <;> rfl
theorem e_forN {a : TAs} {t : TSt} : forL a t [] ρ = .nx ρ := Eq.trans rfl rfl
def fB (a : TAs) (t : TSt) (ds : List D) : Out → Out
  | .nx ρ2 => forL a t ds ρ2
  | .ct ρ2 => forL a t ds ρ2
  | .bk ρ2 => .nx ρ2
  | o => o
def fA (a : TAs) (t : TSt) (ds : List D) : Option Env → Out
  | none => .bad
  | some ρ1 => fB a t ds (t ρ1)
theorem e_fA {a : TAs} {t : TSt} {ds : List D} : fA a t ds (some ρ) = fB a t ds (t ρ) := Eq.trans rfl rfl
theorem e_fBn {a : TAs} {t : TSt} {ds : List D} : fB a t ds (.nx ρ) = forL a t ds ρ := Eq.trans rfl rfl
theorem e_fBc {a : TAs} {t : TSt} {ds : List D} : fB a t ds (.ct ρ) = forL a t ds ρ := Eq.trans rfl rfl
theorem e_fBb {a : TAs} {t : TSt} {ds : List D} : fB a t ds (.bk ρ) = .nx ρ := Eq.trans rfl rfl
theorem e_fBr {a : TAs} {t : TSt} {ds : List D} : fB a t ds (.rt s ρ) = .rt s ρ := Eq.trans rfl rfl
theorem e_fBe {a : TAs} {t : TSt} {ds : List D} {x : XD} : fB a t ds (.exc x ρ) = .exc x ρ := Eq.trans rfl rfl
theorem e_forC {a : TAs} {t : TSt} {ds : List D} : forL a t (d :: ds) ρ = fA a t ds (a d ρ) := by
  unfold fA fB
  rfl
theorem e_aName {i : Nat} : aName i d ρ = some (ρ.set i (some (.fz d))) := Eq.trans rfl rfl
theorem e_aTup {n : Nat} {t : TAss} {ds : List D} : aTup n t (.tup ds) ρ = if ds.length = n then t ds ρ else none := Eq.trans rfl rfl
theorem e_aCons {t : TAs} {u : TAss} {ds : List D} : aCons t u (d :: ds) ρ = (t d ρ).bind fun ρ' => u ds ρ' := Eq.trans rfl rfl
theorem e_aNil : aNil [] ρ = some ρ := Eq.trans rfl rfl
theorem e_oLst {u : Env → Option (List D)} : oLst u ρ = (u ρ).bind tL := by
  unfold oLst
  cases u ρ <;> rfl
/-! comprehensions -/
def lF (own : List Nat) (a : TAs) (b : TB) (t : TV) (ds acc : List D) : Option Env → R (List D × Env)
  | none => .bad
  | some ρ1 => (b ρ1).th fun k ρ2 => if k then (t ρ2).th fun s ρ3 => (if acc.length < sizeLine then lcL own a b t ds (acc ++ [s.fr]) ρ3 else .bad) else lcL own a b t ds acc ρ2
theorem e_lF {own : List Nat} {a : TAs} {b : TB} {t : TV} {ds acc : List D} : lF own a b t ds acc (some ρ) = (b ρ).th fun k ρ2 => if k then (t ρ2).th fun s ρ3 => (if acc.length < sizeLine then lcL own a b t ds (acc ++ [s.fr]) ρ3 else .bad) else lcL own a b t ds acc ρ2 := Eq.trans rfl rfl
theorem e_lcN {own : List Nat} {a : TAs} {b : TB} {t : TV} {acc : List D} : lcL own a b t [] acc ρ = .ok (acc, ρ) := Eq.trans rfl rfl
theorem e_lcC {own : List Nat} {a : TAs} {b : TB} {t : TV} {ds acc : List D} : lcL own a b t (d :: ds) acc ρ = lF own a b t ds acc (a d (wipeE ρ own)) := by
  unfold lF; rfl
def lR (own : List Nat) (ρ1 : Env) : R (List D × Env) → R (S × Env)
  | .ok (acc, ρ2) => .ok (.lst acc, restE ρ1 own ρ2)
  | _ => .bad
theorem e_lR {own : List Nat} {ρ1 : Env} {acc : List D} : lR own ρ1 (.ok (acc, ρ)) = .ok (.lst acc, restE ρ1 own ρ) := Eq.trans rfl rfl
theorem e_vLc {own : List Nat} {it : TIt} {a : TAs} {b : TB} {t : TV} : vLc own it a b t ρ = (it ρ).th fun ds ρ1 => lR own ρ1 (lcL own a b t ds [] ρ1) := by
  unfold vLc lR; rfl
theorem e_vLc2 {own own1 : List Nat} {it it1 : TIt} {a a1 : TAs} {b b1 : TB} {t : TV} : vLc2 own own1 it a b it1 a1 b1 t ρ = (it ρ).th fun ds ρ1 => lR own ρ1 (lc2L own own1 a b it1 a1 b1 t ds [] ρ1) := by
  unfold vLc2 lR; rfl
theorem e_wpN : wipeE ρ [] = ρ := Eq.trans rfl rfl
theorem e_wpC {v : Nat} {vs : List Nat} : wipeE ρ (v :: vs) = wipeE (ρ.set v none) vs := Eq.trans rfl rfl
def rst : Option (Option S) → Option S
  | some (some (.fz d)) => some (.fz d)
  | _ => none
theorem e_rstF : rst (some (some (.fz d))) = some (.fz d) := Eq.trans rfl rfl
theorem e_rstL {ds : List D} : rst (some (some (.lst ds))) = none := Eq.trans rfl rfl
theorem e_rstN : rst (some none) = none := Eq.trans rfl rfl
theorem e_rsN {ρ0 : Env} : restE ρ0 [] ρ = ρ := Eq.trans rfl rfl
theorem e_rsC {ρ0 : Env} {v : Nat} {vs : List Nat} : restE ρ0 (v :: vs) ρ = restE ρ0 vs (ρ.set v (rst ρ0[v]?)) := Eq.trans rfl rfl
theorem e_extend {ds es : List D} (h : ds.length + es.length ≤ sizeLine) : lmExtend ds [.lst es] = some (.non, ds ++ es) := if_pos h
/-- a comprehension, its turns' answers known: f tells what an item gives, none: it is left out -/
theorem lc_all {own : List Nat} {a : TAs} {b : TB} {t : TV} {I : Env → Prop} {f : D → Option D} : ∀ {ds acc : List D} {ρ : Env}, I ρ → acc.length + ds.length ≤ sizeLine →
    (∀ d ∈ ds, ∀ ρ, I ρ → ∃ ρ1, a d (wipeE ρ own) = some ρ1 ∧ ∃ k ρ2, b ρ1 = .ok (k, ρ2) ∧ ((k = false ∧ f d = none ∧ I ρ2) ∨ (k = true ∧ ∃ s ρ3, t ρ2 = .ok (s, ρ3) ∧ f d = some s.fr ∧ I ρ3))) →
    ∃ ρ', I ρ' ∧ lcL own a b t ds acc ρ = .ok (acc ++ ds.filterMap f, ρ')
  | [], acc, ρ, h, _, _ => ⟨ρ, h, by rw [List.filterMap_nil, List.append_nil]; rfl⟩
  | d :: ds, acc, ρ, h, hl, hs => by
    obtain ⟨ρ1, h1, k, ρ2, h2, h3⟩ := hs d List.mem_cons_self ρ h
    have hl' : acc.length + (ds.length + 1) ≤ sizeLine := hl
    rw [e_lcC, h1, e_lF, h2, e_thok]
    rcases h3 with ⟨rfl, hf, i⟩ | ⟨rfl, s, ρ3, h4, hf, i⟩
    · rw [if_neg Bool.false_ne_true, List.filterMap_cons_none hf]
      exact lc_all i (by omega) fun d hd => hs d (List.mem_cons_of_mem _ hd)
    · rw [if_pos rfl, h4, e_thok, if_pos (by omega), List.filterMap_cons_some hf]
      obtain ⟨ρ', j, e⟩ := lc_all (acc := acc ++ [s.fr]) i (by rw [List.length_append]; show acc.length + 1 + ds.length ≤ _; omega) fun d hd => hs d (List.mem_cons_of_mem _ hd)
      exact ⟨ρ', j, by rw [e, List.append_assoc]; rfl⟩
theorem lc2_all {own own1 : List Nat} {a a1 : TAs} {b b1 : TB} {it1 : TIt} {t : TV} {I : Env → Prop} {g : D → List D} : ∀ {ds acc : List D} {ρ : Env}, I ρ → acc.length + (ds.flatMap g).length ≤ sizeLine →
    (∀ d ∈ ds, ∀ (acc : List D) ρ, I ρ → acc.length + (g d).length ≤ sizeLine → ∃ ρ1, a d (wipeE ρ own) = some ρ1 ∧ ∃ ρ2, b ρ1 = .ok (true, ρ2) ∧ ∃ ds1 ρ3, it1 ρ2 = .ok (ds1, ρ3) ∧ ∃ ρ4, lcL own1 a1 b1 t ds1 acc ρ3 = .ok (acc ++ g d, ρ4) ∧ I ρ4) →
    ∃ ρ', I ρ' ∧ lc2L own own1 a b it1 a1 b1 t ds acc ρ = .ok (acc ++ ds.flatMap g, ρ')
  | [], acc, ρ, h, _, _ => ⟨ρ, h, by rw [List.flatMap_nil, List.append_nil]; rfl⟩
  | d :: ds, acc, ρ, h, hl, hs => by
    rw [List.flatMap_cons, List.length_append] at hl
    obtain ⟨ρ1, h1, ρ2, h2, ds1, ρ3, h3, ρ4, h4, i⟩ := hs d List.mem_cons_self acc ρ h (by omega)
    obtain ⟨ρ', j, e⟩ := lc2_all (acc := acc ++ g d) i (by rw [List.length_append]; omega) fun d hd => hs d (List.mem_cons_of_mem _ hd)
    refine ⟨ρ', j, ?_⟩
    rw [lc2L, h1]
    show (b ρ1).th _ = _
    rw [h2, e_thok, if_pos rfl, h3, e_thok, h4, e_thok, e, List.flatMap_cons, List.append_assoc]
/-- a for, each turn knowing what is behind and ahead -/
theorem for_pre {a : TAs} {t : TSt} {I : List D → Env → Prop} {all : List D} : ∀ {ds done : List D} {ρ : Env}, all = done ++ ds → I done ρ →
    (∀ l d r ρ, all = l ++ d :: r → I l ρ → ∃ ρ1, a d ρ = some ρ1 ∧ ∃ ρ2, (t ρ1 = .nx ρ2 ∨ t ρ1 = .ct ρ2) ∧ I (l ++ [d]) ρ2) → ∃ ρ', forL a t ds ρ = .nx ρ' ∧ I all ρ'
  | [], done, ρ, ha, h, _ => ⟨ρ, rfl, by rw [ha, List.append_nil]; exact h⟩
  | d :: ds, done, ρ, ha, h, hs => by
    obtain ⟨ρ1, h1, ρ2, h2, i⟩ := hs done d ds ρ ha h
    obtain ⟨ρ', e, j⟩ := for_pre (ds := ds) (done := done ++ [d]) (by rw [ha, List.append_assoc]; rfl) i hs
    refine ⟨ρ', ?_, j⟩
    rw [e_forC, h1, e_fA]
    rcases h2 with h2 | h2 <;> rw [h2]
    · exact e
    · exact e
/-- a for, an invariant by what was walked -/
theorem for_all {a : TAs} {t : TSt} {I : List D → Env → Prop} : ∀ {ds done : List D} {ρ : Env}, I done ρ →
    (∀ d ∈ ds, ∀ l ρ, I l ρ → ∃ ρ1, a d ρ = some ρ1 ∧ ∃ ρ2, (t ρ1 = .nx ρ2 ∨ t ρ1 = .ct ρ2) ∧ I (l ++ [d]) ρ2) → ∃ ρ', forL a t ds ρ = .nx ρ' ∧ I (done ++ ds) ρ'
  | [], done, ρ, h, _ => ⟨ρ, rfl, by rw [List.append_nil]; exact h⟩
  | d :: ds, done, ρ, h, hs => by
    obtain ⟨ρ1, h1, ρ2, h2, i⟩ := hs d List.mem_cons_self done ρ h
    obtain ⟨ρ', e, j⟩ := for_all (done := done ++ [d]) i fun d hd => hs d (List.mem_cons_of_mem _ hd)
    refine ⟨ρ', ?_, by rw [List.append_assoc] at j; exact j⟩
    rw [e_forC, h1, e_fA]
    rcases h2 with h2 | h2 <;> rw [h2]
    · exact e
    · exact e
end
section
variable {v : Int} {x : Str} {b : Bool} {ds : List D} {T U : String}
def frO (s : S) : Option (List S) → FR
  | some l => .ok s l
  | none => .bad
def frE (x : XD) : Option (List S) → FR
  | some l => .exc x l
  | none => .bad
theorem e_frO {s : S} {l : List S} : frO s (some l) = .ok s l := Eq.trans rfl rfl
theorem e_frE {x : XD} {l : List S} : frE x (some l) = .exc x l := Eq.trans rfl rfl
theorem e_frN {mp : List Nat} {ρ : Env} : Out.fr mp (.nx ρ) = frO (.fz .non) (outsOf mp ρ) := by
  unfold Out.fr frO; rfl
theorem e_frR {mp : List Nat} {ρ : Env} {s : S} : Out.fr mp (.rt s ρ) = frO s (outsOf mp ρ) := by
  unfold Out.fr frO; rfl
theorem e_frX {mp : List Nat} {ρ : Env} {x : XD} : Out.fr mp (.exc x ρ) = frE x (outsOf mp ρ) := by
  unfold Out.fr frE; rfl
theorem e_outN {ρ : Env} : outsOf [] ρ = some [] := Eq.trans rfl rfl
def ou (l : Option (List S)) : Option (Option S) → Option (List S)
  | some (some s) => l.map (s :: ·)
  | _ => none
theorem e_ou {l : List S} {s : S} : ou (some l) (some (some s)) = some (s :: l) := Eq.trans rfl rfl
theorem e_outC {ρ : Env} {i : Nat} {r : List Nat} : outsOf (i :: r) ρ = ou (outsOf r ρ) ρ[i]? := by
  conv => lhs; unfold outsOf
  unfold ou; rfl
theorem e_notB {b : Bool} : dNot (.bl b) = some (.v (.bl (!b))) := Eq.trans rfl rfl
theorem e_notL {ds : List D} : dNot (.lst ds) = some (.v (.bl (!!ds.isEmpty))) := Eq.trans rfl rfl
theorem e_slN : slots [] = [] := Eq.trans rfl rfl
theorem e_slF {d : D} {r : List AV} : slots (.fz d :: r) = slots r := Eq.trans rfl rfl
theorem e_slL {i : Nat} {r : List AV} : slots (.sl i :: r) = i :: slots r := Eq.trans rfl rfl
theorem e_cmN {mp : List Nat} {i : Nat} : calm mp i [] = true := Eq.trans rfl rfl
theorem e_cmC {mp : List Nat} {i : Nat} {s : S} {r : List S} : calm mp i (s :: r) = ((isFz s || mp.contains i) && calm mp (i + 1) r) := Eq.trans rfl rfl
theorem e_fzF {d : D} : isFz (.fz d) = true := Eq.trans rfl rfl
def pb (s : S) (ρ : Env) : Option AV → Env
  | some (.sl k) => ρ.set k (some s)
  | _ => ρ
theorem e_pb {s : S} {ρ : Env} {k : Nat} : pb s ρ (some (.sl k)) = ρ.set k (some s) := Eq.trans rfl rfl
theorem e_pbF {s : S} {ρ : Env} {d : D} : pb s ρ (some (.fz d)) = ρ := Eq.trans rfl rfl
theorem e_putN {as : List AV} {ρ : Env} : putB as [] [] ρ = ρ := Eq.trans rfl rfl
theorem e_putC {as : List AV} {ρ : Env} {i : Nat} {mp : List Nat} {s : S} {outs : List S} : putB as (i :: mp) (s :: outs) ρ = putB as mp outs (pb s ρ as[i]?) := Eq.trans rfl rfl
theorem e_isaI : dIsa T (.int v) = some (.v (.bl (isaB "int" T))) := Eq.trans rfl rfl
theorem e_isaB : dIsa T (.bl b) = some (.v (.bl (isaB "bool" T))) := Eq.trans rfl rfl
theorem e_isaS : dIsa T (.str x) = some (.v (.bl (isaB "str" T))) := Eq.trans rfl rfl
theorem e_isaL : dIsa T (.lst ds) = some (.v (.bl (isaB "list" T))) := Eq.trans rfl rfl
theorem e_isaT : dIsa T (.tup ds) = some (.v (.bl (isaB "tuple" T))) := Eq.trans rfl rfl
theorem e_isaN : dIsa T .non = some (.v (.bl (isaB "NoneType" T))) := Eq.trans rfl rfl
theorem e_isa2I : dIsa2 T U (.int v) = some (.v (.bl (isaB "int" T || isaB "int" U))) := Eq.trans rfl rfl
theorem e_isa2B : dIsa2 T U (.bl b) = some (.v (.bl (isaB "bool" T || isaB "bool" U))) := Eq.trans rfl rfl
theorem e_isa2S : dIsa2 T U (.str x) = some (.v (.bl (isaB "str" T || isaB "str" U))) := Eq.trans rfl rfl
theorem e_isa2L : dIsa2 T U (.lst ds) = some (.v (.bl (isaB "list" T || isaB "list" U))) := Eq.trans rfl rfl
theorem e_isa2T : dIsa2 T U (.tup ds) = some (.v (.bl (isaB "tuple" T || isaB "tuple" U))) := Eq.trans rfl rfl
theorem e_isNnon {n : Bool} : dIsN n .non = some (.v (.bl (n ^^ true))) := Eq.trans rfl rfl
theorem e_isNint {n : Bool} : dIsN n (.int v) = some (.v (.bl (n ^^ false))) := Eq.trans rfl rfl
theorem e_isNbl {n : Bool} : dIsN n (.bl b) = some (.v (.bl (n ^^ false))) := Eq.trans rfl rfl
theorem e_isNstr {n : Bool} : dIsN n (.str x) = some (.v (.bl (n ^^ false))) := Eq.trans rfl rfl
theorem e_isNlst {n : Bool} : dIsN n (.lst ds) = some (.v (.bl (n ^^ false))) := Eq.trans rfl rfl
theorem e_isNtup {n : Bool} : dIsN n (.tup ds) = some (.v (.bl (n ^^ false))) := Eq.trans rfl rfl
theorem e_isB {n b c : Bool} : dIsB n (.bl b) (.bl c) = some (.v (.bl (n ^^ (b == c)))) := by cases n <;> cases b <;> cases c <;> rfl
theorem e_eqI {i j : Int} : dEq (.int i) (.int j) = some (.v (.bl (decide (i = j)))) := by
  show some (OO.v (D.bl (PyData.eqv (.int i) (.int j)))) = _
  congr
theorem e_neI {i j : Int} : dNe (.int i) (.int j) = some (.v (.bl (!decide (i = j)))) := by
  show some (OO.v (D.bl (!PyData.eqv (.int i) (.int j)))) = _
  congr
/-- small enough to be multiplied -/
def Sm (i : Int) : Prop := i.natAbs.log2 < 400000
theorem e_mulS {i j : Int} (h : Sm i) (h2 : Sm j) : dMul (.int i) (.int j) = some (.v (.int (i * j))) := e_mul (by unfold Sm at h h2; omega)
theorem log_lt {n k : Nat} (h : n < 2 ^ k) (hk : 0 < k) : n.log2 < k := by
  by_cases z : n = 0
  · subst z; exact hk
  · exact (Nat.log2_lt z).mpr h
theorem sm_of {i : Int} (h1 : -(2 ^ 64) < i) (h2 : i < 2 ^ 64) : Sm i := by
  have := log_lt (n := i.natAbs) (k := 64) (by omega) (by omega)
  unfold Sm; omega
theorem e_divS {i j : Int} (h : 0 < j) (h2 : j < 2 ^ 64) : dDiv (.int i) (.int j) = some (.v (.int (i / j))) := e_div h (by have := log_lt (n := j.natAbs) (k := 64) (by omega) (by omega); omega)
theorem e_pow {i j : Int} (h : 0 ≤ j ∧ j ≤ 1000000 ∧ i.natAbs < 2 ^ 64) : dPow (.int i) (.int j) = some (.v (.int (i ^ j.toNat))) := by unfold dPow; exact if_pos h
theorem e_pow18 : dPow (.int 10) (.int 18) = some (.v (.int 1000000000000000000)) := by rw [e_pow (by decide)]; rfl
end
end VS
namespace VS
open PySem PySem.Spec PyProof.Rows L2
/-! ### data that are like themselves -/
inductive Nice : Nat → D → Prop
  | non {k} : Nice k .non
  | bl {k b} : Nice k (.bl b)
  | int {k i} : Nice k (.int i)
  | str {k x} : Nice k (.str x)
  | lst {k ds} : (∀ d ∈ ds, Nice k d) → ds.length < 2 ^ 62 → Nice (k + 1) (.lst ds)
  | tup {k ds} : (∀ d ∈ ds, Nice k d) → ds.length < 2 ^ 62 → Nice (k + 1) (.tup ds)
theorem Nice.mono {k m : Nat} {d : D} (h : Nice k d) (hm : k ≤ m) : Nice m d := by
  induction h generalizing m with
  | non => exact .non
  | bl => exact .bl
  | int => exact .int
  | str => exact .str
  | lst h1 h2 ih => obtain ⟨m, rfl⟩ : ∃ m', m = m' + 1 := ⟨m - 1, by omega⟩; exact .lst (fun d hd => ih d hd (by omega)) h2
  | tup h1 h2 ih => obtain ⟨m, rfl⟩ : ∃ m', m = m' + 1 := ⟨m - 1, by omega⟩; exact .tup (fun d hd => ih d hd (by omega)) h2
theorem flats_iff : ∀ {ds : List D}, D.flats ds = true ↔ ∀ d ∈ ds, d.flat = true
  | [] => ⟨fun _ _ h => (nomatch h), fun _ => rfl⟩
  | d :: r => by rw [D.flats, Bool.and_eq_true, flats_iff, List.forall_mem_cons]
theorem depths_le {k : Nat} : ∀ {ds : List D}, (∀ d ∈ ds, d.depth ≤ k) → D.depths ds ≤ k
  | [], _ => Nat.zero_le _
  | d :: r, h => by rw [D.depths]; exact Nat.max_le.mpr ⟨h d List.mem_cons_self, depths_le fun d hd => h d (List.mem_cons_of_mem _ hd)⟩
theorem Nice.flat {k : Nat} {d : D} (h : Nice k d) : d.flat = true ∧ d.depth ≤ k := by
  induction h with
  | non => exact ⟨rfl, Nat.zero_le _⟩
  | bl => exact ⟨rfl, Nat.zero_le _⟩
  | int => exact ⟨rfl, Nat.zero_le _⟩
  | str => exact ⟨rfl, Nat.zero_le _⟩
  | lst h1 h2 ih => exact ⟨by unfold D.flat; exact flats_iff.mpr fun d hd => (ih d hd).1, by unfold D.depth; exact Nat.succ_le_succ (depths_le fun d hd => (ih d hd).2)⟩
  | tup h1 h2 ih => exact ⟨by unfold D.flat; exact flats_iff.mpr fun d hd => (ih d hd).1, by unfold D.depth; exact Nat.succ_le_succ (depths_le fun d hd => (ih d hd).2)⟩
theorem Nice.eqOk {k : Nat} {d : D} (h : Nice k d) (hk : k ≤ 64) : d.eqOk = true := by
  obtain ⟨a, b⟩ := h.flat
  unfold D.eqOk
  rw [a, Bool.true_and]
  exact decide_eq_true (by omega)
mutual
theorem eqv_self : ∀ d : D, d.flat = true → D.eqv d d = true
  | .non, _ => rfl
  | .bl b, _ => by cases b <;> rfl
  | .int i, _ => by simp [D.eqv, D.py, PyData.eqv]
  | .str x, _ => by simp [D.eqv, D.py, PyData.eqv]
  | .tup ds, h => by
    unfold D.flat at h
    simp only [D.eqv, D.py, PyData.eqv]
    exact eqvs_self ds h
  | .lst ds, h => by
    unfold D.flat at h
    simp only [D.eqv, D.py, PyData.eqv]
    exact eqvs_self ds h
  | .dct _ _ _, h => by simp [D.flat] at h
  | .obj _ _ _, h => by simp [D.flat] at h
  | .scr _, h => by simp [D.flat] at h
theorem eqvs_self : ∀ ds : List D, D.flats ds = true → PyData.eqvAll (D.pys ds) (D.pys ds) = true
  | [], _ => by simp [D.pys, PyData.eqvAll]
  | d :: r, h => by
    rw [D.flats, Bool.and_eq_true] at h
    simp only [D.pys, PyData.eqvAll, Bool.and_eq_true]
    exact ⟨eqv_self d h.1, eqvs_self r h.2⟩
end
theorem e_eqS {k : Nat} {d : D} (h : Nice k d) (hk : k ≤ 64) : dEq d d = some (.v (.bl true)) := by
  unfold dEq
  rw [h.eqOk hk, eqv_self d h.flat.1]
  rfl
theorem e_neS {k : Nat} {d : D} (h : Nice k d) (hk : k ≤ 64) : dNe d d = some (.v (.bl false)) := by
  unfold dNe
  rw [h.eqOk hk, eqv_self d h.flat.1]
  rfl
theorem nice_ints {k : Nat} {ns : List Int} (h : ns.length < 2 ^ 62) : Nice (k + 1) (.lst (ns.map .int)) := .lst (fun d hd => by obtain ⟨i, _, rfl⟩ := List.mem_map.mp hd; exact .int) (by rw [List.length_map]; exact h)
/-! ### the laws' common defs -/
def c_sameB (self : List S → FR) : TSt :=
    (sSeq (sIf (bC (oV (o1 (dIsN false) (qVar 1))))
    (sRet (oV (o1 (dIsN false) (qVar 0))))
    sPass)
    (sSeq (sIf (bQ (oQ (o1 (dIsa2 "tuple" "list") (qVar 1))))
    (sSeq (sIf (bOr (bC (oV (o2 dNe (oQ (o1 (dIsa "tuple") (qVar 1))) (oQ (o1 (dIsa "tuple") (qVar 0)))))) (bC (oV (o2 dNe (oQ (o1 (dIsa "list") (qVar 1))) (oQ (o1 (dIsa "list") (qVar 0)))))))
      (sRet (vQ (qC (.bl false))))
      sPass)
      (sSeq (sIf (bC (oV (o2 dNe (oQ (o1 dLen (qVar 0))) (oQ (o1 dLen (qVar 1))))))
      (sRet (vQ (qC (.bl false))))
      sPass)
      (sSeq (sFor (iRng0 (oV (o1 dLen (qVar 1)))) (aName 2)
      (sIf (bNot (bV (vCall [] (fills [] self) (aFz (oV (o2 dSub1 (qVar 0) (qVar 2))) (aFz (oV (o2 dSub1 (qVar 1) (qVar 2))) aNo)))))
        (sRet (vQ (qC (.bl false))))
        sPass))
      (sRet (vQ (qC (.bl true)))))))
    sPass)
    (sSeq (sIf (bQ (oQ (o1 (dIsa "bool") (qVar 1))))
    (sRet (vAnd (oV (o1 (dIsa "bool") (qVar 0))) (oV (o2 dEq (qVar 0) (qVar 1)))))
    sPass)
    (sSeq (sIf (bQ (oQ (o1 (dIsa "int") (qVar 1))))
    (sRet (vAnd (oV (o1 (dIsa "int") (qVar 0))) (vAnd (oV (o1 dNot (oQ (o1 (dIsa "bool") (qVar 0))))) (oV (o2 dEq (qVar 0) (qVar 1))))))
    sPass)
    (sRet (vAnd (oV (o1 (dIsa "str") (qVar 0))) (oV (o2 dEq (qVar 0) (qVar 1)))))))))
def c_same : Nat → List S → FR
  | 0 => fun _ => .bad
  | n + 1 => fnSem 3 2 [] (c_sameB (c_same n))
def c_poolB : TSt :=
    (sRet (oV (oLst (qAnd (oQ (o1 dList (qVar 0))) (qAnd (qC (.int 0)) (qAnd (qC (.int 0)) (qAnd (qC (.int 0)) (qAnd (qC (.int 0)) qNo))))))))
def c_pool : List S → FR := fnSem 1 1 [] c_poolB
def c_drawB : TSt :=
    (sSeq (sIf (bC (oV (o2 dGt (oQ (o2 dSub1 (qVar 0) (qC (.int 2)))) (qC (.int 0)))))
    (sSeq (sSet 3 (oV (o2 dMod (oQ (o1 dInt (oQ (o2 dSub1 (qVar 0) (qC (.int 2)))))) (qVar 1))))
      (sSeq (sPut 0 (oV (o2 dDiv (oQ (o2 dSub1 (qVar 0) (qC (.int 2)))) (qVar 1))) (qC (.int 2)))
      (sRet (vMove 3))))
    sPass)
    (sSeq (sIf (bAnd (bC (oV (o2 dEq (oQ (o2 dMod (oQ (o1 dInt (oQ (o2 dSub1 (qVar 0) (qC (.int 4)))))) (qC (.int 8)))) (qC (.int 0))))) (bC (oV (o2 dLt (oQ (o2 dSub1 (qVar 0) (qC (.int 1)))) (oQ (o1 dLen (oQ (o2 dSub1 (qVar 0) (qC (.int 0))))))))))
    (sSeq (sSet 4 (oV (o1 dAbs (oQ (o2 dSub1 (oQ (o2 dSub1 (qVar 0) (qC (.int 0)))) (oQ (o2 dSub1 (qVar 0) (qC (.int 1)))))))))
      (sSeq (sPut 0 (oV (o2 dAdd (oQ (o2 dSub1 (qVar 0) (qC (.int 1)))) (qC (.int 1)))) (qC (.int 1)))
      (sSeq (sIf (bC (oV (o2 dGe (qVar 4) (oQ (o2 dPow (qC (.int 10)) (qC (.int 18)))))))
      (sSeq (sPut 0 (oV (o2 dDiv (qVar 4) (qVar 1))) (qC (.int 2)))
        (sRet (oV (o2 dMod (oQ (o1 dInt (qVar 4))) (qVar 1)))))
      sPass)
      (sPut 0 (vVar 4) (qC (.int 3))))))
    sPass)
    (sSeq (sPut 0 (oV (o2 dAdd (oQ (o2 dSub1 (qVar 0) (qC (.int 4)))) (qC (.int 1)))) (qC (.int 4)))
    (sSeq (sSet 2 (oV (o2 dMod (oQ (o1 dInt (oQ (o2 dAdd (oQ (o2 dAdd (oQ (o2 dMul (oQ (o2 dSub1 (qVar 0) (qC (.int 3)))) (qC (.int 48271)))) (oQ (o2 dMul (oQ (o2 dSub1 (qVar 0) (qC (.int 4)))) (qC (.int 69621)))))) (qC (.int 7919)))))) (qC (.int 2147483647)))))
    (sSeq (sSet 2 (oV (o2 dMod (oQ (o1 dInt (oQ (o2 dAdd (oQ (o2 dMul (qVar 2) (qVar 2))) (oQ (o2 dMul (oQ (o2 dSub1 (qVar 0) (qC (.int 4)))) (qC (.int 40692)))))))) (qC (.int 2147483399)))))
    (sRet (oV (o2 dMod (oQ (o1 dInt (qVar 2))) (qVar 1)))))))))
def c_draw : List S → FR := fnSem 5 2 [0] c_drawB
def c_pickB : TSt :=
    (sRet (v2 dSub1 (vVar 1) (vCall [0] (fills [] c_draw) (aSl 0 (aFz (oV (o1 dLen (qVar 1))) aNo)))))
def c_pick : List S → FR := fnSem 2 2 [0] c_pickB
def PoolOk (n : Nat) (s : S) : Prop := ∃ (ns : List Int) (i : Nat) (a b : Int) (c : Nat), s = .lst [.lst (ns.map .int), .int i, .int a, .int b, .int c] ∧ i ≤ ns.length ∧ 0 ≤ a ∧ 0 ≤ b ∧ b < 10 ^ 18 ∧ c ≤ n
theorem draw_ok {n : Nat} {p : S} {many : Int} (hp : PoolOk n p) (hn : n < 2 ^ 60) (h1 : 0 < many) (h2 : many < 2 ^ 60) : ∃ r p', c_draw [p, .fz (.int many)] = .ok (.fz (.int r)) [p'] ∧ 0 ≤ r ∧ r < many ∧ PoolOk (n + 1) p' := by
  obtain ⟨ns, i, a, b, c, rfl, hi, ha, hb, hb2, hc⟩ := hp
  have m64 : many < 2 ^ 64 := by omega
  unfold c_draw c_drawB
  by_cases h : 0 < a
  · simp only [fnSem, begin, e_thok, e_thexc, e_stok, e_stexc, e_onx, e_ort, e_obk, e_oct, e_oexc, e_rOv, e_rOn, e_qOv, e_qOn, e_rS, e_rB, e_rV, e_rM, e_qS, e_oV, e_oQ, e_vQ, e_qVar, e_qC, e_vVar, e_vMove, e_o1, e_o2, e_v1, e_v2, e_bind, e_frz, e_frl, e_seq, e_set, e_ret, e_drop, e_pass, e_brk, e_cnt, e_raise, e_raise1, e_if, e_bC, e_bV, e_qT, e_bQ, e_bAnd, e_bOr, e_bNot, e_bYes, e_bl, e_trub, e_trui, e_trul, e_trut, e_trus, e_trun, e_int?, e_vIf, e_le, e_lt, e_ge, e_gt, e_add, e_sub, e_neg, e_abs, e_int, e_lenl, e_lent, e_lens, e_listl, e_listt, e_lists, e_min2, e_max2, e_ix, e_ixt, atI_nat, atI_0, atI_1, atI_2, atI_3, atI_4, e_mapv, e_pO, e_pP, e_sPut, e_aNo, e_aFz, e_aS, e_aSl, e_gS, e_argN, e_argF, e_argL, e_vCall, e_cA, e_cFok, e_cFexc, e_fills, e_qNo, e_qA, e_qAnd, e_oTup, e_oLst, e_tT, e_tL, e_sz, e_szl, e_vLst, e_vTup, e_dL, e_dT, e_allN, e_allC, e_mR, e_mL, e_mS, e_vLm, e_lA, e_lO, e_vAnd, e_vOrB, e_chA, e_oCh, e_sFor, e_iS, e_iSeq, e_itl, e_itt, e_its, e_iR, e_iRng0, e_forN, e_aName, e_aTup, e_aCons, e_aNil, e_vLc, e_vLc2, e_lR, e_wpN, e_wpC, e_rstF, e_rstL, e_rstN, e_rsN, e_rsC, Option.map_some, Option.map_none, List.getElem?_cons_zero, List.getElem?_cons_succ, List.set_cons_zero, List.set_cons_succ, List.map_cons, List.map_nil, List.cons_append, List.nil_append, List.append_nil, List.length_cons, List.length_nil, List.replicate, Nat.reduceAdd, Nat.reduceSub, if_true, if_false, ite_true, ite_false, decide_true, decide_false, Bool.false_eq_true, Bool.not_true, Bool.not_false, decide_eq_true_eq, decide_not, Bool.not_eq_true', decide_eq_false_iff_not, e_isaI, e_isaB, e_isaS, e_isaL, e_isaT, e_isaN, e_isa2I, e_isa2B, e_isa2S, e_isa2L, e_isa2T, e_isNnon, e_isNint, e_isNbl, e_isNstr, e_isNlst, e_isNtup, e_isB, e_eqI, e_neI, e_pow18, isaB, String.reduceBEq, Bool.or_false, Bool.false_or, Bool.and_false, Bool.false_and, Bool.true_and, Bool.and_true, Bool.or_true, Bool.true_or, Bool.xor_false, Bool.false_xor, Bool.xor_true, Bool.true_xor, e_mulS, e_divS, e_mod, e_append, e_put, e_put1, e_put2, e_put3, e_put4, e_frN, e_frR, e_frX, e_frE, e_frO, e_outN, e_outC, e_ou, e_notB, e_notL, e_slN, e_slF, e_slL, e_cmN, e_cmC, e_fzF, e_pb, e_pbF, e_putN, e_putC, List.nodup_cons, List.nodup_nil, List.not_mem_nil, List.mem_cons, not_false_eq_true, or_false, and_self, and_true, true_and, List.contains_cons, List.contains_nil, BEq.rfl, Int.reduceLT, Int.reduceLE, Int.reduceAdd, Int.reduceSub, Int.reduceMul, Int.reduceNeg, Int.reduceEq, Nat.reduceLT, Nat.reduceLeDiff, Nat.reduceMul, Int.toNat_natCast, h, h1, m64]
    exact ⟨_, _, rfl, Int.emod_nonneg _ (by omega), Int.emod_lt_of_pos _ h1, ns, i, _, b, c, rfl, hi, Int.ediv_nonneg ha (by omega), hb, hb2, by omega⟩
  · have s1 : Sm b := sm_of (by omega) (by omega)
    have s2 : Sm 48271 := sm_of (by decide) (by decide)
    have s3 : Sm 69621 := sm_of (by decide) (by decide)
    have s4 : Sm ((c : Int) + 1) := sm_of (by omega) (by omega)
    have s5 : Sm 40692 := sm_of (by decide) (by decide)
    have s6 : ∀ x : Int, Sm (x % 2147483647) := fun x => sm_of (by omega) (by omega)
    by_cases hc8 : (c : Int) % 8 = 0
    · by_cases hlt : i < ns.length
      · have hlt' : (i : Int) < (ns.length : Int) := by omega
        have e1 : (ns.map D.int)[i]? = some (.int ns[i]) := by rw [List.getElem?_map, List.getElem?_eq_getElem hlt]; rfl
        generalize ns[i] = z at e1
        by_cases hz : (1000000000000000000 : Int) ≤ (if z < 0 then -z else z)
        · simp only [fnSem, begin, e_thok, e_thexc, e_stok, e_stexc, e_onx, e_ort, e_obk, e_oct, e_oexc, e_rOv, e_rOn, e_qOv, e_qOn, e_rS, e_rB, e_rV, e_rM, e_qS, e_oV, e_oQ, e_vQ, e_qVar, e_qC, e_vVar, e_vMove, e_o1, e_o2, e_v1, e_v2, e_bind, e_frz, e_frl, e_seq, e_set, e_ret, e_drop, e_pass, e_brk, e_cnt, e_raise, e_raise1, e_if, e_bC, e_bV, e_qT, e_bQ, e_bAnd, e_bOr, e_bNot, e_bYes, e_bl, e_trub, e_trui, e_trul, e_trut, e_trus, e_trun, e_int?, e_vIf, e_le, e_lt, e_ge, e_gt, e_add, e_sub, e_neg, e_abs, e_int, e_lenl, e_lent, e_lens, e_listl, e_listt, e_lists, e_min2, e_max2, e_ix, e_ixt, atI_nat, atI_0, atI_1, atI_2, atI_3, atI_4, e_mapv, e_pO, e_pP, e_sPut, e_aNo, e_aFz, e_aS, e_aSl, e_gS, e_argN, e_argF, e_argL, e_vCall, e_cA, e_cFok, e_cFexc, e_fills, e_qNo, e_qA, e_qAnd, e_oTup, e_oLst, e_tT, e_tL, e_sz, e_szl, e_vLst, e_vTup, e_dL, e_dT, e_allN, e_allC, e_mR, e_mL, e_mS, e_vLm, e_lA, e_lO, e_vAnd, e_vOrB, e_chA, e_oCh, e_sFor, e_iS, e_iSeq, e_itl, e_itt, e_its, e_iR, e_iRng0, e_forN, e_aName, e_aTup, e_aCons, e_aNil, e_vLc, e_vLc2, e_lR, e_wpN, e_wpC, e_rstF, e_rstL, e_rstN, e_rsN, e_rsC, Option.map_some, Option.map_none, List.getElem?_cons_zero, List.getElem?_cons_succ, List.set_cons_zero, List.set_cons_succ, List.map_cons, List.map_nil, List.cons_append, List.nil_append, List.append_nil, List.length_cons, List.length_nil, List.replicate, Nat.reduceAdd, Nat.reduceSub, if_true, if_false, ite_true, ite_false, decide_true, decide_false, Bool.false_eq_true, Bool.not_true, Bool.not_false, decide_eq_true_eq, decide_not, Bool.not_eq_true', decide_eq_false_iff_not, e_isaI, e_isaB, e_isaS, e_isaL, e_isaT, e_isaN, e_isa2I, e_isa2B, e_isa2S, e_isa2L, e_isa2T, e_isNnon, e_isNint, e_isNbl, e_isNstr, e_isNlst, e_isNtup, e_isB, e_eqI, e_neI, e_pow18, isaB, String.reduceBEq, Bool.or_false, Bool.false_or, Bool.and_false, Bool.false_and, Bool.true_and, Bool.and_true, Bool.or_true, Bool.true_or, Bool.xor_false, Bool.false_xor, Bool.xor_true, Bool.true_xor, e_mulS, e_divS, e_mod, e_append, e_put, e_put1, e_put2, e_put3, e_put4, e_frN, e_frR, e_frX, e_frE, e_frO, e_outN, e_outC, e_ou, e_notB, e_notL, e_slN, e_slF, e_slL, e_cmN, e_cmC, e_fzF, e_pb, e_pbF, e_putN, e_putC, List.nodup_cons, List.nodup_nil, List.not_mem_nil, List.mem_cons, not_false_eq_true, or_false, and_self, and_true, true_and, List.contains_cons, List.contains_nil, BEq.rfl, Int.reduceLT, Int.reduceLE, Int.reduceAdd, Int.reduceSub, Int.reduceMul, Int.reduceNeg, Int.reduceEq, Nat.reduceLT, Nat.reduceLeDiff, Nat.reduceMul, Int.toNat_natCast, h, h1, m64, hc8, hlt', e1, List.length_map, hz]
          exact ⟨_, _, rfl, Int.emod_nonneg _ (by omega), Int.emod_lt_of_pos _ h1, ns, i + 1, _, b, c, rfl, by omega, Int.ediv_nonneg (by split <;> omega) (by omega), hb, hb2, by omega⟩
        · have s7 : Sm (if z < 0 then -z else z) := sm_of (by split <;> omega) (by split at hz <;> omega)
          simp only [fnSem, begin, e_thok, e_thexc, e_stok, e_stexc, e_onx, e_ort, e_obk, e_oct, e_oexc, e_rOv, e_rOn, e_qOv, e_qOn, e_rS, e_rB, e_rV, e_rM, e_qS, e_oV, e_oQ, e_vQ, e_qVar, e_qC, e_vVar, e_vMove, e_o1, e_o2, e_v1, e_v2, e_bind, e_frz, e_frl, e_seq, e_set, e_ret, e_drop, e_pass, e_brk, e_cnt, e_raise, e_raise1, e_if, e_bC, e_bV, e_qT, e_bQ, e_bAnd, e_bOr, e_bNot, e_bYes, e_bl, e_trub, e_trui, e_trul, e_trut, e_trus, e_trun, e_int?, e_vIf, e_le, e_lt, e_ge, e_gt, e_add, e_sub, e_neg, e_abs, e_int, e_lenl, e_lent, e_lens, e_listl, e_listt, e_lists, e_min2, e_max2, e_ix, e_ixt, atI_nat, atI_0, atI_1, atI_2, atI_3, atI_4, e_mapv, e_pO, e_pP, e_sPut, e_aNo, e_aFz, e_aS, e_aSl, e_gS, e_argN, e_argF, e_argL, e_vCall, e_cA, e_cFok, e_cFexc, e_fills, e_qNo, e_qA, e_qAnd, e_oTup, e_oLst, e_tT, e_tL, e_sz, e_szl, e_vLst, e_vTup, e_dL, e_dT, e_allN, e_allC, e_mR, e_mL, e_mS, e_vLm, e_lA, e_lO, e_vAnd, e_vOrB, e_chA, e_oCh, e_sFor, e_iS, e_iSeq, e_itl, e_itt, e_its, e_iR, e_iRng0, e_forN, e_aName, e_aTup, e_aCons, e_aNil, e_vLc, e_vLc2, e_lR, e_wpN, e_wpC, e_rstF, e_rstL, e_rstN, e_rsN, e_rsC, Option.map_some, Option.map_none, List.getElem?_cons_zero, List.getElem?_cons_succ, List.set_cons_zero, List.set_cons_succ, List.map_cons, List.map_nil, List.cons_append, List.nil_append, List.append_nil, List.length_cons, List.length_nil, List.replicate, Nat.reduceAdd, Nat.reduceSub, if_true, if_false, ite_true, ite_false, decide_true, decide_false, Bool.false_eq_true, Bool.not_true, Bool.not_false, decide_eq_true_eq, decide_not, Bool.not_eq_true', decide_eq_false_iff_not, e_isaI, e_isaB, e_isaS, e_isaL, e_isaT, e_isaN, e_isa2I, e_isa2B, e_isa2S, e_isa2L, e_isa2T, e_isNnon, e_isNint, e_isNbl, e_isNstr, e_isNlst, e_isNtup, e_isB, e_eqI, e_neI, e_pow18, isaB, String.reduceBEq, Bool.or_false, Bool.false_or, Bool.and_false, Bool.false_and, Bool.true_and, Bool.and_true, Bool.or_true, Bool.true_or, Bool.xor_false, Bool.false_xor, Bool.xor_true, Bool.true_xor, e_mulS, e_divS, e_mod, e_append, e_put, e_put1, e_put2, e_put3, e_put4, e_frN, e_frR, e_frX, e_frE, e_frO, e_outN, e_outC, e_ou, e_notB, e_notL, e_slN, e_slF, e_slL, e_cmN, e_cmC, e_fzF, e_pb, e_pbF, e_putN, e_putC, List.nodup_cons, List.nodup_nil, List.not_mem_nil, List.mem_cons, not_false_eq_true, or_false, and_self, and_true, true_and, List.contains_cons, List.contains_nil, BEq.rfl, Int.reduceLT, Int.reduceLE, Int.reduceAdd, Int.reduceSub, Int.reduceMul, Int.reduceNeg, Int.reduceEq, Nat.reduceLT, Nat.reduceLeDiff, Nat.reduceMul, Int.toNat_natCast, h, h1, m64, hc8, hlt', e1, List.length_map, hz, s7, s2, s3, s4, s5, s6]
          exact ⟨_, _, rfl, Int.emod_nonneg _ (by omega), Int.emod_lt_of_pos _ h1, ns, i + 1, a, _, c + 1, rfl, by omega, ha, by split <;> omega, by split at hz <;> omega, by omega⟩
      · have hlt' : ¬ (i : Int) < (ns.length : Int) := by omega
        simp only [fnSem, begin, e_thok, e_thexc, e_stok, e_stexc, e_onx, e_ort, e_obk, e_oct, e_oexc, e_rOv, e_rOn, e_qOv, e_qOn, e_rS, e_rB, e_rV, e_rM, e_qS, e_oV, e_oQ, e_vQ, e_qVar, e_qC, e_vVar, e_vMove, e_o1, e_o2, e_v1, e_v2, e_bind, e_frz, e_frl, e_seq, e_set, e_ret, e_drop, e_pass, e_brk, e_cnt, e_raise, e_raise1, e_if, e_bC, e_bV, e_qT, e_bQ, e_bAnd, e_bOr, e_bNot, e_bYes, e_bl, e_trub, e_trui, e_trul, e_trut, e_trus, e_trun, e_int?, e_vIf, e_le, e_lt, e_ge, e_gt, e_add, e_sub, e_neg, e_abs, e_int, e_lenl, e_lent, e_lens, e_listl, e_listt, e_lists, e_min2, e_max2, e_ix, e_ixt, atI_nat, atI_0, atI_1, atI_2, atI_3, atI_4, e_mapv, e_pO, e_pP, e_sPut, e_aNo, e_aFz, e_aS, e_aSl, e_gS, e_argN, e_argF, e_argL, e_vCall, e_cA, e_cFok, e_cFexc, e_fills, e_qNo, e_qA, e_qAnd, e_oTup, e_oLst, e_tT, e_tL, e_sz, e_szl, e_vLst, e_vTup, e_dL, e_dT, e_allN, e_allC, e_mR, e_mL, e_mS, e_vLm, e_lA, e_lO, e_vAnd, e_vOrB, e_chA, e_oCh, e_sFor, e_iS, e_iSeq, e_itl, e_itt, e_its, e_iR, e_iRng0, e_forN, e_aName, e_aTup, e_aCons, e_aNil, e_vLc, e_vLc2, e_lR, e_wpN, e_wpC, e_rstF, e_rstL, e_rstN, e_rsN, e_rsC, Option.map_some, Option.map_none, List.getElem?_cons_zero, List.getElem?_cons_succ, List.set_cons_zero, List.set_cons_succ, List.map_cons, List.map_nil, List.cons_append, List.nil_append, List.append_nil, List.length_cons, List.length_nil, List.replicate, Nat.reduceAdd, Nat.reduceSub, if_true, if_false, ite_true, ite_false, decide_true, decide_false, Bool.false_eq_true, Bool.not_true, Bool.not_false, decide_eq_true_eq, decide_not, Bool.not_eq_true', decide_eq_false_iff_not, e_isaI, e_isaB, e_isaS, e_isaL, e_isaT, e_isaN, e_isa2I, e_isa2B, e_isa2S, e_isa2L, e_isa2T, e_isNnon, e_isNint, e_isNbl, e_isNstr, e_isNlst, e_isNtup, e_isB, e_eqI, e_neI, e_pow18, isaB, String.reduceBEq, Bool.or_false, Bool.false_or, Bool.and_false, Bool.false_and, Bool.true_and, Bool.and_true, Bool.or_true, Bool.true_or, Bool.xor_false, Bool.false_xor, Bool.xor_true, Bool.true_xor, e_mulS, e_divS, e_mod, e_append, e_put, e_put1, e_put2, e_put3, e_put4, e_frN, e_frR, e_frX, e_frE, e_frO, e_outN, e_outC, e_ou, e_notB, e_notL, e_slN, e_slF, e_slL, e_cmN, e_cmC, e_fzF, e_pb, e_pbF, e_putN, e_putC, List.nodup_cons, List.nodup_nil, List.not_mem_nil, List.mem_cons, not_false_eq_true, or_false, and_self, and_true, true_and, List.contains_cons, List.contains_nil, BEq.rfl, Int.reduceLT, Int.reduceLE, Int.reduceAdd, Int.reduceSub, Int.reduceMul, Int.reduceNeg, Int.reduceEq, Nat.reduceLT, Nat.reduceLeDiff, Nat.reduceMul, Int.toNat_natCast, h, h1, m64, hc8, hlt', List.length_map, s1, s2, s3, s4, s5, s6]
        exact ⟨_, _, rfl, Int.emod_nonneg _ (by omega), Int.emod_lt_of_pos _ h1, ns, i, a, b, c + 1, rfl, by omega, ha, hb, hb2, by omega⟩
    · simp only [fnSem, begin, e_thok, e_thexc, e_stok, e_stexc, e_onx, e_ort, e_obk, e_oct, e_oexc, e_rOv, e_rOn, e_qOv, e_qOn, e_rS, e_rB, e_rV, e_rM, e_qS, e_oV, e_oQ, e_vQ, e_qVar, e_qC, e_vVar, e_vMove, e_o1, e_o2, e_v1, e_v2, e_bind, e_frz, e_frl, e_seq, e_set, e_ret, e_drop, e_pass, e_brk, e_cnt, e_raise, e_raise1, e_if, e_bC, e_bV, e_qT, e_bQ, e_bAnd, e_bOr, e_bNot, e_bYes, e_bl, e_trub, e_trui, e_trul, e_trut, e_trus, e_trun, e_int?, e_vIf, e_le, e_lt, e_ge, e_gt, e_add, e_sub, e_neg, e_abs, e_int, e_lenl, e_lent, e_lens, e_listl, e_listt, e_lists, e_min2, e_max2, e_ix, e_ixt, atI_nat, atI_0, atI_1, atI_2, atI_3, atI_4, e_mapv, e_pO, e_pP, e_sPut, e_aNo, e_aFz, e_aS, e_aSl, e_gS, e_argN, e_argF, e_argL, e_vCall, e_cA, e_cFok, e_cFexc, e_fills, e_qNo, e_qA, e_qAnd, e_oTup, e_oLst, e_tT, e_tL, e_sz, e_szl, e_vLst, e_vTup, e_dL, e_dT, e_allN, e_allC, e_mR, e_mL, e_mS, e_vLm, e_lA, e_lO, e_vAnd, e_vOrB, e_chA, e_oCh, e_sFor, e_iS, e_iSeq, e_itl, e_itt, e_its, e_iR, e_iRng0, e_forN, e_aName, e_aTup, e_aCons, e_aNil, e_vLc, e_vLc2, e_lR, e_wpN, e_wpC, e_rstF, e_rstL, e_rstN, e_rsN, e_rsC, Option.map_some, Option.map_none, List.getElem?_cons_zero, List.getElem?_cons_succ, List.set_cons_zero, List.set_cons_succ, List.map_cons, List.map_nil, List.cons_append, List.nil_append, List.append_nil, List.length_cons, List.length_nil, List.replicate, Nat.reduceAdd, Nat.reduceSub, if_true, if_false, ite_true, ite_false, decide_true, decide_false, Bool.false_eq_true, Bool.not_true, Bool.not_false, decide_eq_true_eq, decide_not, Bool.not_eq_true', decide_eq_false_iff_not, e_isaI, e_isaB, e_isaS, e_isaL, e_isaT, e_isaN, e_isa2I, e_isa2B, e_isa2S, e_isa2L, e_isa2T, e_isNnon, e_isNint, e_isNbl, e_isNstr, e_isNlst, e_isNtup, e_isB, e_eqI, e_neI, e_pow18, isaB, String.reduceBEq, Bool.or_false, Bool.false_or, Bool.and_false, Bool.false_and, Bool.true_and, Bool.and_true, Bool.or_true, Bool.true_or, Bool.xor_false, Bool.false_xor, Bool.xor_true, Bool.true_xor, e_mulS, e_divS, e_mod, e_append, e_put, e_put1, e_put2, e_put3, e_put4, e_frN, e_frR, e_frX, e_frE, e_frO, e_outN, e_outC, e_ou, e_notB, e_notL, e_slN, e_slF, e_slL, e_cmN, e_cmC, e_fzF, e_pb, e_pbF, e_putN, e_putC, List.nodup_cons, List.nodup_nil, List.not_mem_nil, List.mem_cons, not_false_eq_true, or_false, and_self, and_true, true_and, List.contains_cons, List.contains_nil, BEq.rfl, Int.reduceLT, Int.reduceLE, Int.reduceAdd, Int.reduceSub, Int.reduceMul, Int.reduceNeg, Int.reduceEq, Nat.reduceLT, Nat.reduceLeDiff, Nat.reduceMul, Int.toNat_natCast, h, h1, m64, hc8, s1, s2, s3, s4, s5, s6]
      exact ⟨_, _, rfl, Int.emod_nonneg _ (by omega), Int.emod_lt_of_pos _ h1, ns, i, a, b, c + 1, rfl, by omega, ha, hb, hb2, by omega⟩

theorem pick_ok {n : Nat} {p : S} {ds : List D} (hp : PoolOk n p) (hn : n < 2 ^ 60) (h1 : ds ≠ []) (h2 : ds.length < 2 ^ 60) : ∃ (i : Nat) (d : D) (p' : S), ds[i]? = some d ∧ c_pick [p, .fz (.lst ds)] = .ok (.fz d) [p'] ∧ PoolOk (n + 1) p' := by
  have hl : 0 < ds.length := List.length_pos_iff.mpr h1
  obtain ⟨r, p', h, hr, hr2, hp'⟩ := draw_ok hp hn (many := (ds.length : Int)) (by omega) (by omega)
  obtain ⟨i, rfl⟩ : ∃ i : Nat, r = (i : Int) := ⟨r.toNat, by omega⟩
  have hi : i < ds.length := by omega
  refine ⟨i, ds[i], p', List.getElem?_eq_getElem hi, ?_, hp'⟩
  unfold c_pick c_pickB
  have hf : isFz p = false := by obtain ⟨ns, i, a, b, c, rfl, _⟩ := hp; rfl
  simp only [fnSem, begin, e_thok, e_thexc, e_stok, e_stexc, e_onx, e_ort, e_obk, e_oct, e_oexc, e_rOv, e_rOn, e_qOv, e_qOn, e_rS, e_rB, e_rV, e_rM, e_qS, e_oV, e_oQ, e_vQ, e_qVar, e_qC, e_vVar, e_vMove, e_o1, e_o2, e_v1, e_v2, e_bind, e_frz, e_frl, e_seq, e_set, e_ret, e_drop, e_pass, e_brk, e_cnt, e_raise, e_raise1, e_if, e_bC, e_bV, e_qT, e_bQ, e_bAnd, e_bOr, e_bNot, e_bYes, e_bl, e_trub, e_trui, e_trul, e_trut, e_trus, e_trun, e_int?, e_vIf, e_le, e_lt, e_ge, e_gt, e_add, e_sub, e_neg, e_abs, e_int, e_lenl, e_lent, e_lens, e_listl, e_listt, e_lists, e_min2, e_max2, e_ix, e_ixt, atI_nat, atI_0, atI_1, atI_2, atI_3, atI_4, e_mapv, e_pO, e_pP, e_sPut, e_aNo, e_aFz, e_aS, e_aSl, e_gS, e_argN, e_argF, e_argL, e_vCall, e_cA, e_cFok, e_cFexc, e_fills, e_qNo, e_qA, e_qAnd, e_oTup, e_oLst, e_tT, e_tL, e_sz, e_szl, e_vLst, e_vTup, e_dL, e_dT, e_allN, e_allC, e_mR, e_mL, e_mS, e_vLm, e_lA, e_lO, e_vAnd, e_vOrB, e_chA, e_oCh, e_sFor, e_iS, e_iSeq, e_itl, e_itt, e_its, e_iR, e_iRng0, e_forN, e_aName, e_aTup, e_aCons, e_aNil, e_vLc, e_vLc2, e_lR, e_wpN, e_wpC, e_rstF, e_rstL, e_rstN, e_rsN, e_rsC, Option.map_some, Option.map_none, List.getElem?_cons_zero, List.getElem?_cons_succ, List.set_cons_zero, List.set_cons_succ, List.map_cons, List.map_nil, List.cons_append, List.nil_append, List.append_nil, List.length_cons, List.length_nil, List.replicate, Nat.reduceAdd, Nat.reduceSub, if_true, if_false, ite_true, ite_false, decide_true, decide_false, Bool.false_eq_true, Bool.not_true, Bool.not_false, decide_eq_true_eq, decide_not, Bool.not_eq_true', decide_eq_false_iff_not, e_isaI, e_isaB, e_isaS, e_isaL, e_isaT, e_isaN, e_isa2I, e_isa2B, e_isa2S, e_isa2L, e_isa2T, e_isNnon, e_isNint, e_isNbl, e_isNstr, e_isNlst, e_isNtup, e_isB, e_eqI, e_neI, e_pow18, isaB, String.reduceBEq, Bool.or_false, Bool.false_or, Bool.and_false, Bool.false_and, Bool.true_and, Bool.and_true, Bool.or_true, Bool.true_or, Bool.xor_false, Bool.false_xor, Bool.xor_true, Bool.true_xor, e_mulS, e_divS, e_mod, e_append, e_put, e_put1, e_put2, e_put3, e_put4, e_frN, e_frR, e_frX, e_frE, e_frO, e_outN, e_outC, e_ou, e_notB, e_notL, e_slN, e_slF, e_slL, e_cmN, e_cmC, e_fzF, e_pb, e_pbF, e_putN, e_putC, List.nodup_cons, List.nodup_nil, List.not_mem_nil, List.mem_cons, not_false_eq_true, or_false, and_self, and_true, true_and, List.contains_cons, List.contains_nil, BEq.rfl, Int.reduceLT, Int.reduceLE, Int.reduceAdd, Int.reduceSub, Int.reduceMul, Int.reduceNeg, Int.reduceEq, Nat.reduceLT, Nat.reduceLeDiff, Nat.reduceMul, Int.toNat_natCast, h, List.getElem?_eq_getElem hi]
theorem same_at {m : Nat} {ss : List S} : c_same (m + 1) ss = fnSem 3 2 [] (c_sameB (c_same m)) ss := rfl
theorem mem_rng {n : Nat} {d : D} (h : d ∈ rng 0 (n : Int)) : ∃ i : Nat, i < n ∧ d = .int i := by
  unfold rng at h
  obtain ⟨i, hi, rfl⟩ := List.mem_map.mp h
  refine ⟨i, by have := List.mem_range.mp hi; omega, by rw [Int.zero_add]⟩
theorem same_loop (k m : Nat) (ds : List D) (e : D) (he : e = .lst ds ∨ e = .tup ds) (hs : ∀ d ∈ ds, ∀ m, k < m → c_same m [.fz d, .fz d] = .ok (.fz (.bl true)) []) (hm : k < m) :
      ∃ x, forL (aName 2) (sIf (bNot (bV (vCall [] (fills [] (c_same m)) (aFz (oV (o2 dSub1 (qVar 0) (qVar 2))) (aFz (oV (o2 dSub1 (qVar 1) (qVar 2))) aNo))))) (sRet (vQ (qC (.bl false)))) sPass) (rng 0 ds.length) [some (.fz e), some (.fz e), none] = .nx [some (.fz e), some (.fz e), x] := by
    obtain ⟨ρ', h1, x, h2⟩ := for_all (a := aName 2) (t := sIf (bNot (bV (vCall [] (fills [] (c_same m)) (aFz (oV (o2 dSub1 (qVar 0) (qVar 2))) (aFz (oV (o2 dSub1 (qVar 1) (qVar 2))) aNo))))) (sRet (vQ (qC (.bl false)))) sPass) (I := fun _ ρ => ∃ x, ρ = [some (.fz e), some (.fz e), x]) (ds := rng 0 ds.length) (done := []) (ρ := [some (.fz e), some (.fz e), none]) ⟨none, rfl⟩ fun d hd l ρ ⟨x, hx⟩ => by
      obtain ⟨i, hi, rfl⟩ := mem_rng hd
      subst hx
      have e1 : ds[i]? = some ds[i] := List.getElem?_eq_getElem hi
      have e2 := hs ds[i] (List.getElem_mem hi) m hm
      generalize ds[i] = z at e1 e2
      rcases he with rfl | rfl
      · exact ⟨_, rfl, [some (.fz (.lst ds)), some (.fz (.lst ds)), some (.fz (.int i))], .inl (by simp only [fnSem, begin, e_thok, e_thexc, e_stok, e_stexc, e_onx, e_ort, e_obk, e_oct, e_oexc, e_rOv, e_rOn, e_qOv, e_qOn, e_rS, e_rB, e_rV, e_rM, e_qS, e_oV, e_oQ, e_vQ, e_qVar, e_qC, e_vVar, e_vMove, e_o1, e_o2, e_v1, e_v2, e_bind, e_frz, e_frl, e_seq, e_set, e_ret, e_drop, e_pass, e_brk, e_cnt, e_raise, e_raise1, e_if, e_bC, e_bV, e_qT, e_bQ, e_bAnd, e_bOr, e_bNot, e_bYes, e_bl, e_trub, e_trui, e_trul, e_trut, e_trus, e_trun, e_int?, e_vIf, e_le, e_lt, e_ge, e_gt, e_add, e_sub, e_neg, e_abs, e_int, e_lenl, e_lent, e_lens, e_listl, e_listt, e_lists, e_min2, e_max2, e_ix, e_ixt, atI_nat, atI_0, atI_1, atI_2, atI_3, atI_4, e_mapv, e_pO, e_pP, e_sPut, e_aNo, e_aFz, e_aS, e_aSl, e_gS, e_argN, e_argF, e_argL, e_vCall, e_cA, e_cFok, e_cFexc, e_fills, e_qNo, e_qA, e_qAnd, e_oTup, e_oLst, e_tT, e_tL, e_sz, e_szl, e_vLst, e_vTup, e_dL, e_dT, e_allN, e_allC, e_mR, e_mL, e_mS, e_vLm, e_lA, e_lO, e_vAnd, e_vOrB, e_chA, e_oCh, e_sFor, e_iS, e_iSeq, e_itl, e_itt, e_its, e_iR, e_iRng0, e_forN, e_aName, e_aTup, e_aCons, e_aNil, e_vLc, e_vLc2, e_lR, e_wpN, e_wpC, e_rstF, e_rstL, e_rstN, e_rsN, e_rsC, Option.map_some, Option.map_none, List.getElem?_cons_zero, List.getElem?_cons_succ, List.set_cons_zero, List.set_cons_succ, List.map_cons, List.map_nil, List.cons_append, List.nil_append, List.append_nil, List.length_cons, List.length_nil, List.replicate, Nat.reduceAdd, Nat.reduceSub, if_true, if_false, ite_true, ite_false, decide_true, decide_false, Bool.false_eq_true, Bool.not_true, Bool.not_false, decide_eq_true_eq, decide_not, Bool.not_eq_true', decide_eq_false_iff_not, e_isaI, e_isaB, e_isaS, e_isaL, e_isaT, e_isaN, e_isa2I, e_isa2B, e_isa2S, e_isa2L, e_isa2T, e_isNnon, e_isNint, e_isNbl, e_isNstr, e_isNlst, e_isNtup, e_isB, e_eqI, e_neI, e_pow18, isaB, String.reduceBEq, Bool.or_false, Bool.false_or, Bool.and_false, Bool.false_and, Bool.true_and, Bool.and_true, Bool.or_true, Bool.true_or, Bool.xor_false, Bool.false_xor, Bool.xor_true, Bool.true_xor, e_mulS, e_divS, e_mod, e_append, e_put, e_put1, e_put2, e_put3, e_put4, e_frN, e_frR, e_frX, e_frE, e_frO, e_outN, e_outC, e_ou, e_notB, e_notL, e_slN, e_slF, e_slL, e_cmN, e_cmC, e_fzF, e_pb, e_pbF, e_putN, e_putC, List.nodup_cons, List.nodup_nil, List.not_mem_nil, List.mem_cons, not_false_eq_true, or_false, and_self, and_true, true_and, List.contains_cons, List.contains_nil, BEq.rfl, Int.reduceLT, Int.reduceLE, Int.reduceAdd, Int.reduceSub, Int.reduceMul, Int.reduceNeg, Int.reduceEq, Nat.reduceLT, Nat.reduceLeDiff, Nat.reduceMul, Int.toNat_natCast, e1, e2]), _, rfl⟩
      · exact ⟨_, rfl, [some (.fz (.tup ds)), some (.fz (.tup ds)), some (.fz (.int i))], .inl (by simp only [fnSem, begin, e_thok, e_thexc, e_stok, e_stexc, e_onx, e_ort, e_obk, e_oct, e_oexc, e_rOv, e_rOn, e_qOv, e_qOn, e_rS, e_rB, e_rV, e_rM, e_qS, e_oV, e_oQ, e_vQ, e_qVar, e_qC, e_vVar, e_vMove, e_o1, e_o2, e_v1, e_v2, e_bind, e_frz, e_frl, e_seq, e_set, e_ret, e_drop, e_pass, e_brk, e_cnt, e_raise, e_raise1, e_if, e_bC, e_bV, e_qT, e_bQ, e_bAnd, e_bOr, e_bNot, e_bYes, e_bl, e_trub, e_trui, e_trul, e_trut, e_trus, e_trun, e_int?, e_vIf, e_le, e_lt, e_ge, e_gt, e_add, e_sub, e_neg, e_abs, e_int, e_lenl, e_lent, e_lens, e_listl, e_listt, e_lists, e_min2, e_max2, e_ix, e_ixt, atI_nat, atI_0, atI_1, atI_2, atI_3, atI_4, e_mapv, e_pO, e_pP, e_sPut, e_aNo, e_aFz, e_aS, e_aSl, e_gS, e_argN, e_argF, e_argL, e_vCall, e_cA, e_cFok, e_cFexc, e_fills, e_qNo, e_qA, e_qAnd, e_oTup, e_oLst, e_tT, e_tL, e_sz, e_szl, e_vLst, e_vTup, e_dL, e_dT, e_allN, e_allC, e_mR, e_mL, e_mS, e_vLm, e_lA, e_lO, e_vAnd, e_vOrB, e_chA, e_oCh, e_sFor, e_iS, e_iSeq, e_itl, e_itt, e_its, e_iR, e_iRng0, e_forN, e_aName, e_aTup, e_aCons, e_aNil, e_vLc, e_vLc2, e_lR, e_wpN, e_wpC, e_rstF, e_rstL, e_rstN, e_rsN, e_rsC, Option.map_some, Option.map_none, List.getElem?_cons_zero, List.getElem?_cons_succ, List.set_cons_zero, List.set_cons_succ, List.map_cons, List.map_nil, List.cons_append, List.nil_append, List.append_nil, List.length_cons, List.length_nil, List.replicate, Nat.reduceAdd, Nat.reduceSub, if_true, if_false, ite_true, ite_false, decide_true, decide_false, Bool.false_eq_true, Bool.not_true, Bool.not_false, decide_eq_true_eq, decide_not, Bool.not_eq_true', decide_eq_false_iff_not, e_isaI, e_isaB, e_isaS, e_isaL, e_isaT, e_isaN, e_isa2I, e_isa2B, e_isa2S, e_isa2L, e_isa2T, e_isNnon, e_isNint, e_isNbl, e_isNstr, e_isNlst, e_isNtup, e_isB, e_eqI, e_neI, e_pow18, isaB, String.reduceBEq, Bool.or_false, Bool.false_or, Bool.and_false, Bool.false_and, Bool.true_and, Bool.and_true, Bool.or_true, Bool.true_or, Bool.xor_false, Bool.false_xor, Bool.xor_true, Bool.true_xor, e_mulS, e_divS, e_mod, e_append, e_put, e_put1, e_put2, e_put3, e_put4, e_frN, e_frR, e_frX, e_frE, e_frO, e_outN, e_outC, e_ou, e_notB, e_notL, e_slN, e_slF, e_slL, e_cmN, e_cmC, e_fzF, e_pb, e_pbF, e_putN, e_putC, List.nodup_cons, List.nodup_nil, List.not_mem_nil, List.mem_cons, not_false_eq_true, or_false, and_self, and_true, true_and, List.contains_cons, List.contains_nil, BEq.rfl, Int.reduceLT, Int.reduceLE, Int.reduceAdd, Int.reduceSub, Int.reduceMul, Int.reduceNeg, Int.reduceEq, Nat.reduceLT, Nat.reduceLeDiff, Nat.reduceMul, Int.toNat_natCast, e1, e2]), _, rfl⟩
    exact ⟨x, h2 ▸ h1⟩
theorem same_l {k m : Nat} {ds : List D} (h2 : ds.length < 2 ^ 62) (ih : ∀ d ∈ ds, ∀ m, k < m → c_same m [.fz d, .fz d] = .ok (.fz (.bl true)) []) (hm : k < m) : c_same (m + 1) [.fz (.lst ds), .fz (.lst ds)] = .ok (.fz (.bl true)) [] := by
    obtain ⟨x, hx⟩ := same_loop k m ds _ (.inl rfl) ih hm
    have hr := rg_nat h2
    rw [same_at]; unfold c_sameB; simp only [fnSem, begin, e_thok, e_thexc, e_stok, e_stexc, e_onx, e_ort, e_obk, e_oct, e_oexc, e_rOv, e_rOn, e_qOv, e_qOn, e_rS, e_rB, e_rV, e_rM, e_qS, e_oV, e_oQ, e_vQ, e_qVar, e_qC, e_vVar, e_vMove, e_o1, e_o2, e_v1, e_v2, e_bind, e_frz, e_frl, e_seq, e_set, e_ret, e_drop, e_pass, e_brk, e_cnt, e_raise, e_raise1, e_if, e_bC, e_bV, e_qT, e_bQ, e_bAnd, e_bOr, e_bNot, e_bYes, e_bl, e_trub, e_trui, e_trul, e_trut, e_trus, e_trun, e_int?, e_vIf, e_le, e_lt, e_ge, e_gt, e_add, e_sub, e_neg, e_abs, e_int, e_lenl, e_lent, e_lens, e_listl, e_listt, e_lists, e_min2, e_max2, e_ix, e_ixt, atI_nat, atI_0, atI_1, atI_2, atI_3, atI_4, e_mapv, e_pO, e_pP, e_sPut, e_aNo, e_aFz, e_aS, e_aSl, e_gS, e_argN, e_argF, e_argL, e_vCall, e_cA, e_cFok, e_cFexc, e_fills, e_qNo, e_qA, e_qAnd, e_oTup, e_oLst, e_tT, e_tL, e_sz, e_szl, e_vLst, e_vTup, e_dL, e_dT, e_allN, e_allC, e_mR, e_mL, e_mS, e_vLm, e_lA, e_lO, e_vAnd, e_vOrB, e_chA, e_oCh, e_sFor, e_iS, e_iSeq, e_itl, e_itt, e_its, e_iR, e_iRng0, e_forN, e_aName, e_aTup, e_aCons, e_aNil, e_vLc, e_vLc2, e_lR, e_wpN, e_wpC, e_rstF, e_rstL, e_rstN, e_rsN, e_rsC, Option.map_some, Option.map_none, List.getElem?_cons_zero, List.getElem?_cons_succ, List.set_cons_zero, List.set_cons_succ, List.map_cons, List.map_nil, List.cons_append, List.nil_append, List.append_nil, List.length_cons, List.length_nil, List.replicate, Nat.reduceAdd, Nat.reduceSub, if_true, if_false, ite_true, ite_false, decide_true, decide_false, Bool.false_eq_true, Bool.not_true, Bool.not_false, decide_eq_true_eq, decide_not, Bool.not_eq_true', decide_eq_false_iff_not, e_isaI, e_isaB, e_isaS, e_isaL, e_isaT, e_isaN, e_isa2I, e_isa2B, e_isa2S, e_isa2L, e_isa2T, e_isNnon, e_isNint, e_isNbl, e_isNstr, e_isNlst, e_isNtup, e_isB, e_eqI, e_neI, e_pow18, isaB, String.reduceBEq, Bool.or_false, Bool.false_or, Bool.and_false, Bool.false_and, Bool.true_and, Bool.and_true, Bool.or_true, Bool.true_or, Bool.xor_false, Bool.false_xor, Bool.xor_true, Bool.true_xor, e_mulS, e_divS, e_mod, e_append, e_put, e_put1, e_put2, e_put3, e_put4, e_frN, e_frR, e_frX, e_frE, e_frO, e_outN, e_outC, e_ou, e_notB, e_notL, e_slN, e_slF, e_slL, e_cmN, e_cmC, e_fzF, e_pb, e_pbF, e_putN, e_putC, List.nodup_cons, List.nodup_nil, List.not_mem_nil, List.mem_cons, not_false_eq_true, or_false, and_self, and_true, true_and, List.contains_cons, List.contains_nil, BEq.rfl, Int.reduceLT, Int.reduceLE, Int.reduceAdd, Int.reduceSub, Int.reduceMul, Int.reduceNeg, Int.reduceEq, Nat.reduceLT, Nat.reduceLeDiff, Nat.reduceMul, Int.toNat_natCast, e_neS (k := 0) (d := .bl _) .bl (by decide), hr, hx]
theorem same_t {k m : Nat} {ds : List D} (h2 : ds.length < 2 ^ 62) (ih : ∀ d ∈ ds, ∀ m, k < m → c_same m [.fz d, .fz d] = .ok (.fz (.bl true)) []) (hm : k < m) : c_same (m + 1) [.fz (.tup ds), .fz (.tup ds)] = .ok (.fz (.bl true)) [] := by
    obtain ⟨x, hx⟩ := same_loop k m ds _ (.inr rfl) ih hm
    have hr := rg_nat h2
    rw [same_at]; unfold c_sameB; simp only [fnSem, begin, e_thok, e_thexc, e_stok, e_stexc, e_onx, e_ort, e_obk, e_oct, e_oexc, e_rOv, e_rOn, e_qOv, e_qOn, e_rS, e_rB, e_rV, e_rM, e_qS, e_oV, e_oQ, e_vQ, e_qVar, e_qC, e_vVar, e_vMove, e_o1, e_o2, e_v1, e_v2, e_bind, e_frz, e_frl, e_seq, e_set, e_ret, e_drop, e_pass, e_brk, e_cnt, e_raise, e_raise1, e_if, e_bC, e_bV, e_qT, e_bQ, e_bAnd, e_bOr, e_bNot, e_bYes, e_bl, e_trub, e_trui, e_trul, e_trut, e_trus, e_trun, e_int?, e_vIf, e_le, e_lt, e_ge, e_gt, e_add, e_sub, e_neg, e_abs, e_int, e_lenl, e_lent, e_lens, e_listl, e_listt, e_lists, e_min2, e_max2, e_ix, e_ixt, atI_nat, atI_0, atI_1, atI_2, atI_3, atI_4, e_mapv, e_pO, e_pP, e_sPut, e_aNo, e_aFz, e_aS, e_aSl, e_gS, e_argN, e_argF, e_argL, e_vCall, e_cA, e_cFok, e_cFexc, e_fills, e_qNo, e_qA, e_qAnd, e_oTup, e_oLst, e_tT, e_tL, e_sz, e_szl, e_vLst, e_vTup, e_dL, e_dT, e_allN, e_allC, e_mR, e_mL, e_mS, e_vLm, e_lA, e_lO, e_vAnd, e_vOrB, e_chA, e_oCh, e_sFor, e_iS, e_iSeq, e_itl, e_itt, e_its, e_iR, e_iRng0, e_forN, e_aName, e_aTup, e_aCons, e_aNil, e_vLc, e_vLc2, e_lR, e_wpN, e_wpC, e_rstF, e_rstL, e_rstN, e_rsN, e_rsC, Option.map_some, Option.map_none, List.getElem?_cons_zero, List.getElem?_cons_succ, List.set_cons_zero, List.set_cons_succ, List.map_cons, List.map_nil, List.cons_append, List.nil_append, List.append_nil, List.length_cons, List.length_nil, List.replicate, Nat.reduceAdd, Nat.reduceSub, if_true, if_false, ite_true, ite_false, decide_true, decide_false, Bool.false_eq_true, Bool.not_true, Bool.not_false, decide_eq_true_eq, decide_not, Bool.not_eq_true', decide_eq_false_iff_not, e_isaI, e_isaB, e_isaS, e_isaL, e_isaT, e_isaN, e_isa2I, e_isa2B, e_isa2S, e_isa2L, e_isa2T, e_isNnon, e_isNint, e_isNbl, e_isNstr, e_isNlst, e_isNtup, e_isB, e_eqI, e_neI, e_pow18, isaB, String.reduceBEq, Bool.or_false, Bool.false_or, Bool.and_false, Bool.false_and, Bool.true_and, Bool.and_true, Bool.or_true, Bool.true_or, Bool.xor_false, Bool.false_xor, Bool.xor_true, Bool.true_xor, e_mulS, e_divS, e_mod, e_append, e_put, e_put1, e_put2, e_put3, e_put4, e_frN, e_frR, e_frX, e_frE, e_frO, e_outN, e_outC, e_ou, e_notB, e_notL, e_slN, e_slF, e_slL, e_cmN, e_cmC, e_fzF, e_pb, e_pbF, e_putN, e_putC, List.nodup_cons, List.nodup_nil, List.not_mem_nil, List.mem_cons, not_false_eq_true, or_false, and_self, and_true, true_and, List.contains_cons, List.contains_nil, BEq.rfl, Int.reduceLT, Int.reduceLE, Int.reduceAdd, Int.reduceSub, Int.reduceMul, Int.reduceNeg, Int.reduceEq, Nat.reduceLT, Nat.reduceLeDiff, Nat.reduceMul, Int.toNat_natCast, e_neS (k := 0) (d := .bl _) .bl (by decide), hr, hx]
theorem same_n {m : Nat} : c_same (m + 1) [.fz .non, .fz .non] = .ok (.fz (.bl true)) [] := by
    rw [same_at]; unfold c_sameB; simp only [fnSem, begin, e_thok, e_thexc, e_stok, e_stexc, e_onx, e_ort, e_obk, e_oct, e_oexc, e_rOv, e_rOn, e_qOv, e_qOn, e_rS, e_rB, e_rV, e_rM, e_qS, e_oV, e_oQ, e_vQ, e_qVar, e_qC, e_vVar, e_vMove, e_o1, e_o2, e_v1, e_v2, e_bind, e_frz, e_frl, e_seq, e_set, e_ret, e_drop, e_pass, e_brk, e_cnt, e_raise, e_raise1, e_if, e_bC, e_bV, e_qT, e_bQ, e_bAnd, e_bOr, e_bNot, e_bYes, e_bl, e_trub, e_trui, e_trul, e_trut, e_trus, e_trun, e_int?, e_vIf, e_le, e_lt, e_ge, e_gt, e_add, e_sub, e_neg, e_abs, e_int, e_lenl, e_lent, e_lens, e_listl, e_listt, e_lists, e_min2, e_max2, e_ix, e_ixt, atI_nat, atI_0, atI_1, atI_2, atI_3, atI_4, e_mapv, e_pO, e_pP, e_sPut, e_aNo, e_aFz, e_aS, e_aSl, e_gS, e_argN, e_argF, e_argL, e_vCall, e_cA, e_cFok, e_cFexc, e_fills, e_qNo, e_qA, e_qAnd, e_oTup, e_oLst, e_tT, e_tL, e_sz, e_szl, e_vLst, e_vTup, e_dL, e_dT, e_allN, e_allC, e_mR, e_mL, e_mS, e_vLm, e_lA, e_lO, e_vAnd, e_vOrB, e_chA, e_oCh, e_sFor, e_iS, e_iSeq, e_itl, e_itt, e_its, e_iR, e_iRng0, e_forN, e_aName, e_aTup, e_aCons, e_aNil, e_vLc, e_vLc2, e_lR, e_wpN, e_wpC, e_rstF, e_rstL, e_rstN, e_rsN, e_rsC, Option.map_some, Option.map_none, List.getElem?_cons_zero, List.getElem?_cons_succ, List.set_cons_zero, List.set_cons_succ, List.map_cons, List.map_nil, List.cons_append, List.nil_append, List.append_nil, List.length_cons, List.length_nil, List.replicate, Nat.reduceAdd, Nat.reduceSub, if_true, if_false, ite_true, ite_false, decide_true, decide_false, Bool.false_eq_true, Bool.not_true, Bool.not_false, decide_eq_true_eq, decide_not, Bool.not_eq_true', decide_eq_false_iff_not, e_isaI, e_isaB, e_isaS, e_isaL, e_isaT, e_isaN, e_isa2I, e_isa2B, e_isa2S, e_isa2L, e_isa2T, e_isNnon, e_isNint, e_isNbl, e_isNstr, e_isNlst, e_isNtup, e_isB, e_eqI, e_neI, e_pow18, isaB, String.reduceBEq, Bool.or_false, Bool.false_or, Bool.and_false, Bool.false_and, Bool.true_and, Bool.and_true, Bool.or_true, Bool.true_or, Bool.xor_false, Bool.false_xor, Bool.xor_true, Bool.true_xor, e_mulS, e_divS, e_mod, e_append, e_put, e_put1, e_put2, e_put3, e_put4, e_frN, e_frR, e_frX, e_frE, e_frO, e_outN, e_outC, e_ou, e_notB, e_notL, e_slN, e_slF, e_slL, e_cmN, e_cmC, e_fzF, e_pb, e_pbF, e_putN, e_putC, List.nodup_cons, List.nodup_nil, List.not_mem_nil, List.mem_cons, not_false_eq_true, or_false, and_self, and_true, true_and, List.contains_cons, List.contains_nil, BEq.rfl, Int.reduceLT, Int.reduceLE, Int.reduceAdd, Int.reduceSub, Int.reduceMul, Int.reduceNeg, Int.reduceEq, Nat.reduceLT, Nat.reduceLeDiff, Nat.reduceMul, Int.toNat_natCast]
theorem same_b {m : Nat} {b : Bool} : c_same (m + 1) [.fz (.bl b), .fz (.bl b)] = .ok (.fz (.bl true)) [] := by
    rw [same_at]; unfold c_sameB; simp only [fnSem, begin, e_thok, e_thexc, e_stok, e_stexc, e_onx, e_ort, e_obk, e_oct, e_oexc, e_rOv, e_rOn, e_qOv, e_qOn, e_rS, e_rB, e_rV, e_rM, e_qS, e_oV, e_oQ, e_vQ, e_qVar, e_qC, e_vVar, e_vMove, e_o1, e_o2, e_v1, e_v2, e_bind, e_frz, e_frl, e_seq, e_set, e_ret, e_drop, e_pass, e_brk, e_cnt, e_raise, e_raise1, e_if, e_bC, e_bV, e_qT, e_bQ, e_bAnd, e_bOr, e_bNot, e_bYes, e_bl, e_trub, e_trui, e_trul, e_trut, e_trus, e_trun, e_int?, e_vIf, e_le, e_lt, e_ge, e_gt, e_add, e_sub, e_neg, e_abs, e_int, e_lenl, e_lent, e_lens, e_listl, e_listt, e_lists, e_min2, e_max2, e_ix, e_ixt, atI_nat, atI_0, atI_1, atI_2, atI_3, atI_4, e_mapv, e_pO, e_pP, e_sPut, e_aNo, e_aFz, e_aS, e_aSl, e_gS, e_argN, e_argF, e_argL, e_vCall, e_cA, e_cFok, e_cFexc, e_fills, e_qNo, e_qA, e_qAnd, e_oTup, e_oLst, e_tT, e_tL, e_sz, e_szl, e_vLst, e_vTup, e_dL, e_dT, e_allN, e_allC, e_mR, e_mL, e_mS, e_vLm, e_lA, e_lO, e_vAnd, e_vOrB, e_chA, e_oCh, e_sFor, e_iS, e_iSeq, e_itl, e_itt, e_its, e_iR, e_iRng0, e_forN, e_aName, e_aTup, e_aCons, e_aNil, e_vLc, e_vLc2, e_lR, e_wpN, e_wpC, e_rstF, e_rstL, e_rstN, e_rsN, e_rsC, Option.map_some, Option.map_none, List.getElem?_cons_zero, List.getElem?_cons_succ, List.set_cons_zero, List.set_cons_succ, List.map_cons, List.map_nil, List.cons_append, List.nil_append, List.append_nil, List.length_cons, List.length_nil, List.replicate, Nat.reduceAdd, Nat.reduceSub, if_true, if_false, ite_true, ite_false, decide_true, decide_false, Bool.false_eq_true, Bool.not_true, Bool.not_false, decide_eq_true_eq, decide_not, Bool.not_eq_true', decide_eq_false_iff_not, e_isaI, e_isaB, e_isaS, e_isaL, e_isaT, e_isaN, e_isa2I, e_isa2B, e_isa2S, e_isa2L, e_isa2T, e_isNnon, e_isNint, e_isNbl, e_isNstr, e_isNlst, e_isNtup, e_isB, e_eqI, e_neI, e_pow18, isaB, String.reduceBEq, Bool.or_false, Bool.false_or, Bool.and_false, Bool.false_and, Bool.true_and, Bool.and_true, Bool.or_true, Bool.true_or, Bool.xor_false, Bool.false_xor, Bool.xor_true, Bool.true_xor, e_mulS, e_divS, e_mod, e_append, e_put, e_put1, e_put2, e_put3, e_put4, e_frN, e_frR, e_frX, e_frE, e_frO, e_outN, e_outC, e_ou, e_notB, e_notL, e_slN, e_slF, e_slL, e_cmN, e_cmC, e_fzF, e_pb, e_pbF, e_putN, e_putC, List.nodup_cons, List.nodup_nil, List.not_mem_nil, List.mem_cons, not_false_eq_true, or_false, and_self, and_true, true_and, List.contains_cons, List.contains_nil, BEq.rfl, Int.reduceLT, Int.reduceLE, Int.reduceAdd, Int.reduceSub, Int.reduceMul, Int.reduceNeg, Int.reduceEq, Nat.reduceLT, Nat.reduceLeDiff, Nat.reduceMul, Int.toNat_natCast, e_eqS (k := 0) (d := .bl _) .bl (by decide)]
theorem same_i {m : Nat} {i : Int} : c_same (m + 1) [.fz (.int i), .fz (.int i)] = .ok (.fz (.bl true)) [] := by
    rw [same_at]; unfold c_sameB; simp only [fnSem, begin, e_thok, e_thexc, e_stok, e_stexc, e_onx, e_ort, e_obk, e_oct, e_oexc, e_rOv, e_rOn, e_qOv, e_qOn, e_rS, e_rB, e_rV, e_rM, e_qS, e_oV, e_oQ, e_vQ, e_qVar, e_qC, e_vVar, e_vMove, e_o1, e_o2, e_v1, e_v2, e_bind, e_frz, e_frl, e_seq, e_set, e_ret, e_drop, e_pass, e_brk, e_cnt, e_raise, e_raise1, e_if, e_bC, e_bV, e_qT, e_bQ, e_bAnd, e_bOr, e_bNot, e_bYes, e_bl, e_trub, e_trui, e_trul, e_trut, e_trus, e_trun, e_int?, e_vIf, e_le, e_lt, e_ge, e_gt, e_add, e_sub, e_neg, e_abs, e_int, e_lenl, e_lent, e_lens, e_listl, e_listt, e_lists, e_min2, e_max2, e_ix, e_ixt, atI_nat, atI_0, atI_1, atI_2, atI_3, atI_4, e_mapv, e_pO, e_pP, e_sPut, e_aNo, e_aFz, e_aS, e_aSl, e_gS, e_argN, e_argF, e_argL, e_vCall, e_cA, e_cFok, e_cFexc, e_fills, e_qNo, e_qA, e_qAnd, e_oTup, e_oLst, e_tT, e_tL, e_sz, e_szl, e_vLst, e_vTup, e_dL, e_dT, e_allN, e_allC, e_mR, e_mL, e_mS, e_vLm, e_lA, e_lO, e_vAnd, e_vOrB, e_chA, e_oCh, e_sFor, e_iS, e_iSeq, e_itl, e_itt, e_its, e_iR, e_iRng0, e_forN, e_aName, e_aTup, e_aCons, e_aNil, e_vLc, e_vLc2, e_lR, e_wpN, e_wpC, e_rstF, e_rstL, e_rstN, e_rsN, e_rsC, Option.map_some, Option.map_none, List.getElem?_cons_zero, List.getElem?_cons_succ, List.set_cons_zero, List.set_cons_succ, List.map_cons, List.map_nil, List.cons_append, List.nil_append, List.append_nil, List.length_cons, List.length_nil, List.replicate, Nat.reduceAdd, Nat.reduceSub, if_true, if_false, ite_true, ite_false, decide_true, decide_false, Bool.false_eq_true, Bool.not_true, Bool.not_false, decide_eq_true_eq, decide_not, Bool.not_eq_true', decide_eq_false_iff_not, e_isaI, e_isaB, e_isaS, e_isaL, e_isaT, e_isaN, e_isa2I, e_isa2B, e_isa2S, e_isa2L, e_isa2T, e_isNnon, e_isNint, e_isNbl, e_isNstr, e_isNlst, e_isNtup, e_isB, e_eqI, e_neI, e_pow18, isaB, String.reduceBEq, Bool.or_false, Bool.false_or, Bool.and_false, Bool.false_and, Bool.true_and, Bool.and_true, Bool.or_true, Bool.true_or, Bool.xor_false, Bool.false_xor, Bool.xor_true, Bool.true_xor, e_mulS, e_divS, e_mod, e_append, e_put, e_put1, e_put2, e_put3, e_put4, e_frN, e_frR, e_frX, e_frE, e_frO, e_outN, e_outC, e_ou, e_notB, e_notL, e_slN, e_slF, e_slL, e_cmN, e_cmC, e_fzF, e_pb, e_pbF, e_putN, e_putC, List.nodup_cons, List.nodup_nil, List.not_mem_nil, List.mem_cons, not_false_eq_true, or_false, and_self, and_true, true_and, List.contains_cons, List.contains_nil, BEq.rfl, Int.reduceLT, Int.reduceLE, Int.reduceAdd, Int.reduceSub, Int.reduceMul, Int.reduceNeg, Int.reduceEq, Nat.reduceLT, Nat.reduceLeDiff, Nat.reduceMul, Int.toNat_natCast, e_eqS (k := 0) (d := .int _) .int (by decide)]
theorem same_s {m : Nat} {x : Str} : c_same (m + 1) [.fz (.str x), .fz (.str x)] = .ok (.fz (.bl true)) [] := by
    rw [same_at]; unfold c_sameB; simp only [fnSem, begin, e_thok, e_thexc, e_stok, e_stexc, e_onx, e_ort, e_obk, e_oct, e_oexc, e_rOv, e_rOn, e_qOv, e_qOn, e_rS, e_rB, e_rV, e_rM, e_qS, e_oV, e_oQ, e_vQ, e_qVar, e_qC, e_vVar, e_vMove, e_o1, e_o2, e_v1, e_v2, e_bind, e_frz, e_frl, e_seq, e_set, e_ret, e_drop, e_pass, e_brk, e_cnt, e_raise, e_raise1, e_if, e_bC, e_bV, e_qT, e_bQ, e_bAnd, e_bOr, e_bNot, e_bYes, e_bl, e_trub, e_trui, e_trul, e_trut, e_trus, e_trun, e_int?, e_vIf, e_le, e_lt, e_ge, e_gt, e_add, e_sub, e_neg, e_abs, e_int, e_lenl, e_lent, e_lens, e_listl, e_listt, e_lists, e_min2, e_max2, e_ix, e_ixt, atI_nat, atI_0, atI_1, atI_2, atI_3, atI_4, e_mapv, e_pO, e_pP, e_sPut, e_aNo, e_aFz, e_aS, e_aSl, e_gS, e_argN, e_argF, e_argL, e_vCall, e_cA, e_cFok, e_cFexc, e_fills, e_qNo, e_qA, e_qAnd, e_oTup, e_oLst, e_tT, e_tL, e_sz, e_szl, e_vLst, e_vTup, e_dL, e_dT, e_allN, e_allC, e_mR, e_mL, e_mS, e_vLm, e_lA, e_lO, e_vAnd, e_vOrB, e_chA, e_oCh, e_sFor, e_iS, e_iSeq, e_itl, e_itt, e_its, e_iR, e_iRng0, e_forN, e_aName, e_aTup, e_aCons, e_aNil, e_vLc, e_vLc2, e_lR, e_wpN, e_wpC, e_rstF, e_rstL, e_rstN, e_rsN, e_rsC, Option.map_some, Option.map_none, List.getElem?_cons_zero, List.getElem?_cons_succ, List.set_cons_zero, List.set_cons_succ, List.map_cons, List.map_nil, List.cons_append, List.nil_append, List.append_nil, List.length_cons, List.length_nil, List.replicate, Nat.reduceAdd, Nat.reduceSub, if_true, if_false, ite_true, ite_false, decide_true, decide_false, Bool.false_eq_true, Bool.not_true, Bool.not_false, decide_eq_true_eq, decide_not, Bool.not_eq_true', decide_eq_false_iff_not, e_isaI, e_isaB, e_isaS, e_isaL, e_isaT, e_isaN, e_isa2I, e_isa2B, e_isa2S, e_isa2L, e_isa2T, e_isNnon, e_isNint, e_isNbl, e_isNstr, e_isNlst, e_isNtup, e_isB, e_eqI, e_neI, e_pow18, isaB, String.reduceBEq, Bool.or_false, Bool.false_or, Bool.and_false, Bool.false_and, Bool.true_and, Bool.and_true, Bool.or_true, Bool.true_or, Bool.xor_false, Bool.false_xor, Bool.xor_true, Bool.true_xor, e_mulS, e_divS, e_mod, e_append, e_put, e_put1, e_put2, e_put3, e_put4, e_frN, e_frR, e_frX, e_frE, e_frO, e_outN, e_outC, e_ou, e_notB, e_notL, e_slN, e_slF, e_slL, e_cmN, e_cmC, e_fzF, e_pb, e_pbF, e_putN, e_putC, List.nodup_cons, List.nodup_nil, List.not_mem_nil, List.mem_cons, not_false_eq_true, or_false, and_self, and_true, true_and, List.contains_cons, List.contains_nil, BEq.rfl, Int.reduceLT, Int.reduceLE, Int.reduceAdd, Int.reduceSub, Int.reduceMul, Int.reduceNeg, Int.reduceEq, Nat.reduceLT, Nat.reduceLeDiff, Nat.reduceMul, Int.toNat_natCast, e_eqS (k := 0) (d := .str _) .str (by decide)]
theorem same_refl {k : Nat} {d : D} (h : Nice k d) : ∀ {m : Nat}, k < m → c_same m [.fz d, .fz d] = .ok (.fz (.bl true)) [] := by
  induction h with
  | non => intro m hm; cases m with | zero => omega | succ m => exact same_n
  | bl => intro m hm; cases m with | zero => omega | succ m => exact same_b
  | int => intro m hm; cases m with | zero => omega | succ m => exact same_i
  | str => intro m hm; cases m with | zero => omega | succ m => exact same_s
  | lst h1 h2 ih => intro m hm; cases m with | zero => omega | succ m => exact same_l h2 (fun d hd m hm => ih d hd hm) (by omega)
  | tup h1 h2 ih => intro m hm; cases m with | zero => omega | succ m => exact same_t h2 (fun d hd m hm => ih d hd hm) (by omega)
end VS
namespace VS
open PySem PySem.Spec PyProof.Rows L2
section
variable {X : Cx} {c : JC} {w : WX} {e a b : Expr} {pos : Pos}
/-! ### slices of what is worked out -/
theorem cut_ok {τ : Tg} {H : Hp} {π : List Nat} {x : V} {s : S} {lo hi : Option Int} {Q : VK} (hd : ∀ a, H a = none → τ a = none) (hw : W (gX X) τ H π x s) (q : OOk (gX X) τ H (dCut s.fr lo hi) Q) : rSlAll X x lo hi H Q := by
  unfold dCut at q
  split at q
  · rename_i ds e5
    obtain ⟨p, vs, rfl, h1, f⟩ := hw.lst_of e5
    exact .inl ⟨p, vs, rfl, .inl (.inl h1), fun p' hn => q _ _ (Nw.lst (K := H) hn (f.cut _ _))⟩
  · rename_i ds e5
    obtain ⟨p, vs, rfl, h1, h2, f⟩ := hw.tup_of e5
    refine .inr (.inl ⟨p, vs, rfl, .inl (.inl h1), fun z => ?_, fun z p' hn => ?_⟩)
    · rw [f.len] at z
      rw [cutL_all z] at q
      exact q _ H (.refl H) (.tup h1 h2 f)
    · exact q _ _ (same_new hn) (F.tupN hd hn (f.cut _ _))
  · rename_i x e5
    by_cases hl : x.length ≤ sizeLine
    · rw [if_pos hl] at q
      obtain ⟨h1, h2⟩ := hw.str_of e5
      refine .inr (.inr ⟨x, h1, hl, q _ H (.refl H) (.str _ (strOk_sub h2 fun n hn => ?_))⟩)
      unfold cutS at hn
      exact List.mem_of_mem_drop (List.mem_of_mem_take (by simpa using hn))
    · rw [if_neg hl] at q; exact q.elim
  · exact q.elim
def vCut (t : TV) (l h : Env → Option (Option Int)) : TV := fun ρ => (t ρ).th fun s ρ1 => R.op ρ1 ((l ρ1).bind fun lo => (h ρ1).bind fun hi => dCut s.fr lo hi)
theorem v_cut {t : TV} {lo hi : Option Expr} {tl th : Env → Option (Option Int)} {p2 : Pos} (he : PE X e (tV (gX X) c w t)) (hl : PO X lo (tPQ (gX X) c tl)) (hh : PO X hi (tPQ (gX X) c th)) : PE X (.Subscript e (.Slice lo hi none p2) pos) (tV (gX X) c w (vCut t tl th)) :=
  PEw (pe_slice (r := rSlAll X) (SlR.or sl_list (SlR.or sl_tupA sl_str)) he hl hh) fun σ H Q ⟨τ, ρ, j, q⟩ => by
    refine ⟨τ, ρ, j, ?_⟩
    unfold vCut at q
    cases e1 : t ρ with
    | bad => rw [e1] at q; exact q
    | exc x ρ' => rw [e1] at q; exact q
    | ok z =>
      obtain ⟨s, ρ1⟩ := z
      rw [e1] at q
      dsimp only [R.th] at q
      intro v H1 τ1 a1 a2 a3
      cases e2 : tl ρ1 with
      | none => rw [e2] at q; exact q.elim
      | some l =>
        rw [e2] at q
        dsimp only [Option.bind] at q
        cases e3 : th ρ1 with
        | none => rw [e3] at q; exact q.elim
        | some h =>
          rw [e3] at q
          dsimp only at q
          exact ⟨_, ρ1, l, a2.freeze, e2, fun H2 s2 j2 => ⟨_, ρ1, h, j2, e3, fun H3 s3 j3 => cut_ok (π := [0]) (dom0 j3) (.fz ((a3.freeze.same s2).same s3)) (op_fin j3 ((a1.trans retag_ext).trans ((Ext.same s2).trans (.same s3))) q)⟩⟩
end
end VS
namespace VS
open PySem PySem.Spec PyProof.Rows L2
/-! ### while, a, b = e, f -/
def wB (b : TB) (t : TSt) (n : Nat) : Out → Out
  | .nx ρ2 => whileL b t n ρ2
  | .ct ρ2 => whileL b t n ρ2
  | .bk ρ2 => .nx ρ2
  | o => o
section
variable {b : TB} {t : TSt} {n : Nat} {ρ : Env} {s : S}
theorem e_wh : whileL b t (n + 1) ρ = (b ρ).st fun k ρ' => if k then wB b t n (t ρ') else .nx ρ' := by
  rw [whileL]
  congr
theorem e_wBn : wB b t n (.nx ρ) = whileL b t n ρ := Eq.trans rfl rfl
theorem e_wBc : wB b t n (.ct ρ) = whileL b t n ρ := Eq.trans rfl rfl
theorem e_wBb : wB b t n (.bk ρ) = .nx ρ := Eq.trans rfl rfl
theorem e_wBr : wB b t n (.rt s ρ) = .rt s ρ := Eq.trans rfl rfl
theorem e_wBe {x : XD} : wB b t n (.exc x ρ) = .exc x ρ := Eq.trans rfl rfl
theorem e_sWh : sWhile n b t ρ = whileL b t n ρ := Eq.trans rfl rfl
def par2 (i j : Nat) (ρ : Env) : List AV → Out
  | [.fz d, .fz d'] => .nx ((ρ.set i (some (.fz d))).set j (some (.fz d')))
  | _ => .bad
theorem e_par2 {i j : Nat} {d d' : D} : par2 i j ρ [.fz d, .fz d'] = .nx ((ρ.set i (some (.fz d))).set j (some (.fz d'))) := Eq.trans rfl rfl
theorem e_sPar {i j : Nat} {u : TAv} : sPar i j u ρ = (u ρ).st fun as ρ1 => par2 i j ρ1 as := by
  unfold sPar par2; rfl
end
noncomputable section
def c_commonB : TSt :=
    (sSeq (sWhile 20000 (bC (oV (o2 dGt (qVar 1) (qC (.int 0)))))
    (sPar 0 1 (aFz (vVar 1) (aFz (oV (o2 dMod (qVar 0) (qVar 1))) aNo))))
    (sRet (vVar 0)))
def c_common : List S → FR := fnSem 2 2 [] c_commonB
def c_partB : TSt :=
    (sSeq (sIf (bOr (bQ (oQ (o1 (dIsa "bool") (qVar 0)))) (bOr (bQ (oQ (o1 (dIsa "bool") (qVar 1)))) (bOr (bNot (bQ (oQ (o1 (dIsa "int") (qVar 0))))) (bOr (bNot (bQ (oQ (o1 (dIsa "int") (qVar 1))))) (bC (oV (o2 dLt (qVar 1) (qC (.int 1)))))))))
    (sRaise "InvalidNumber")
    sPass)
    (sSeq (sSet 2 (vCall [] (fills [] c_common) (aFz (oV (o1 dAbs (qVar 0))) (aFz (vVar 1) aNo))))
    (sRet (oV (oTup (qAnd (oQ (o2 dDiv (qVar 0) (qVar 2))) (qAnd (oQ (o2 dDiv (qVar 1) (qVar 2))) qNo)))))))
def c_part : List S → FR := fnSem 3 2 [] c_partB
def c_is_partB : TSt :=
    (sSeq (sIf (bOr (bNot (bQ (oQ (o1 (dIsa "tuple") (qVar 0))))) (bC (oV (o2 dNe (oQ (o1 dLen (qVar 0))) (qC (.int 2))))))
    (sRet (vQ (qC (.bl false))))
    sPass)
    (sSeq (sFor (iSeq (vVar 0)) (aName 1)
    (sIf (bOr (bQ (oQ (o1 (dIsa "bool") (qVar 1)))) (bNot (bQ (oQ (o1 (dIsa "int") (qVar 1))))))
      (sRet (vQ (qC (.bl false))))
      sPass))
    (sRet (vAnd (oV (o2 dGe (oQ (o2 dSub1 (qVar 0) (qC (.int 1)))) (qC (.int 1)))) (v2 dEq (vCall [] (fills [] c_common) (aFz (oV (o1 dAbs (oQ (o2 dSub1 (qVar 0) (qC (.int 0)))))) (aFz (oV (o2 dSub1 (qVar 0) (qC (.int 1)))) aNo))) (vQ (qC (.int 1))))))))
def c_is_part : List S → FR := fnSem 2 1 [] c_is_partB
def c_plusB : TSt :=
    (sRet (vCall [] (fills [] c_part) (aFz (oV (o2 dAdd (oQ (o2 dMul (oQ (o2 dSub1 (qVar 0) (qC (.int 0)))) (oQ (o2 dSub1 (qVar 1) (qC (.int 1)))))) (oQ (o2 dMul (oQ (o2 dSub1 (qVar 1) (qC (.int 0)))) (oQ (o2 dSub1 (qVar 0) (qC (.int 1)))))))) (aFz (oV (o2 dMul (oQ (o2 dSub1 (qVar 0) (qC (.int 1)))) (oQ (o2 dSub1 (qVar 1) (qC (.int 1)))))) aNo))))
def c_plus : List S → FR := fnSem 2 2 [] c_plusB
def c_minusB : TSt :=
    (sRet (vCall [] (fills [] c_part) (aFz (oV (o2 dSub (oQ (o2 dMul (oQ (o2 dSub1 (qVar 0) (qC (.int 0)))) (oQ (o2 dSub1 (qVar 1) (qC (.int 1)))))) (oQ (o2 dMul (oQ (o2 dSub1 (qVar 1) (qC (.int 0)))) (oQ (o2 dSub1 (qVar 0) (qC (.int 1)))))))) (aFz (oV (o2 dMul (oQ (o2 dSub1 (qVar 0) (qC (.int 1)))) (oQ (o2 dSub1 (qVar 1) (qC (.int 1)))))) aNo))))
def c_minus : List S → FR := fnSem 2 2 [] c_minusB
def c_timesB : TSt :=
    (sRet (vCall [] (fills [] c_part) (aFz (oV (o2 dMul (oQ (o2 dSub1 (qVar 0) (qC (.int 0)))) (oQ (o2 dSub1 (qVar 1) (qC (.int 0)))))) (aFz (oV (o2 dMul (oQ (o2 dSub1 (qVar 0) (qC (.int 1)))) (oQ (o2 dSub1 (qVar 1) (qC (.int 1)))))) aNo))))
def c_times : List S → FR := fnSem 2 2 [] c_timesB
def c_is_lessB : TSt :=
    (sRet (oV (o2 dLt (oQ (o2 dMul (oQ (o2 dSub1 (qVar 0) (qC (.int 0)))) (oQ (o2 dSub1 (qVar 1) (qC (.int 1)))))) (oQ (o2 dMul (oQ (o2 dSub1 (qVar 1) (qC (.int 0)))) (oQ (o2 dSub1 (qVar 0) (qC (.int 1)))))))))
def c_is_less : List S → FR := fnSem 2 2 [] c_is_lessB
def c_overB : TSt :=
    (sSeq (sIf (bC (oV (o2 dEq (oQ (o2 dSub1 (qVar 1) (qC (.int 0)))) (qC (.int 0)))))
    (sRaise "InvalidPaper")
    sPass)
    (sSeq (sIf (bC (oV (o2 dLt (oQ (o2 dSub1 (qVar 1) (qC (.int 0)))) (qC (.int 0)))))
    (sRet (vCall [] (fills [] c_part) (aFz (oV (o2 dMul (oQ (o1 dNeg (oQ (o2 dSub1 (qVar 0) (qC (.int 0)))))) (oQ (o2 dSub1 (qVar 1) (qC (.int 1)))))) (aFz (oV (o2 dMul (oQ (o2 dSub1 (qVar 0) (qC (.int 1)))) (oQ (o1 dNeg (oQ (o2 dSub1 (qVar 1) (qC (.int 0)))))))) aNo))))
    sPass)
    (sRet (vCall [] (fills [] c_part) (aFz (oV (o2 dMul (oQ (o2 dSub1 (qVar 0) (qC (.int 0)))) (oQ (o2 dSub1 (qVar 1) (qC (.int 1)))))) (aFz (oV (o2 dMul (oQ (o2 dSub1 (qVar 0) (qC (.int 1)))) (oQ (o2 dSub1 (qVar 1) (qC (.int 0)))))) aNo))))))
def c_over : List S → FR := fnSem 2 2 [] c_overB
def c_lpartB : TSt :=
    (sSeq (sSet 2 (oV (o1 dAbs (qVar 0))))
    (sSeq (sSet 3 (vVar 1))
    (sSeq (sWhile 20000 (bC (oV (o2 dGt (qVar 3) (qC (.int 0)))))
    (sSeq (sSet 4 (oV (o2 dMod (oQ (o1 dInt (qVar 2))) (qVar 3))))
      (sSeq (sSet 2 (vVar 3))
      (sSet 3 (vVar 4)))))
    (sRet (oV (oTup (qAnd (oQ (o2 dDiv (qVar 0) (qVar 2))) (qAnd (oQ (o2 dDiv (qVar 1) (qVar 2))) qNo))))))))
def c_lpart : List S → FR := fnSem 5 2 [] c_lpartB
def c_lplusB : TSt :=
    (sRet (vCall [] (fills [] c_lpart) (aFz (oV (o2 dAdd (oQ (o2 dMul (oQ (o2 dSub1 (qVar 0) (qC (.int 0)))) (oQ (o2 dSub1 (qVar 1) (qC (.int 1)))))) (oQ (o2 dMul (oQ (o2 dSub1 (qVar 1) (qC (.int 0)))) (oQ (o2 dSub1 (qVar 0) (qC (.int 1)))))))) (aFz (oV (o2 dMul (oQ (o2 dSub1 (qVar 0) (qC (.int 1)))) (oQ (o2 dSub1 (qVar 1) (qC (.int 1)))))) aNo))))
def c_lplus : List S → FR := fnSem 2 2 [] c_lplusB
def c_llessB : TSt :=
    (sRet (oV (o2 dLt (oQ (o2 dMul (oQ (o2 dSub1 (qVar 0) (qC (.int 0)))) (oQ (o2 dSub1 (qVar 1) (qC (.int 1)))))) (oQ (o2 dMul (oQ (o2 dSub1 (qVar 1) (qC (.int 0)))) (oQ (o2 dSub1 (qVar 0) (qC (.int 1)))))))))
def c_lless : List S → FR := fnSem 2 2 [] c_llessB
def c_lsumB : TSt :=
    (sSeq (sSet 1 (oV (oTup (qAnd (qC (.int 0)) (qAnd (qC (.int 1)) qNo)))))
    (sSeq (sFor (iSeq (vVar 0)) (aName 2)
    (sSet 1 (vCall [] (fills [] c_lplus) (aFz (vVar 1) (aFz (vVar 2) aNo)))))
    (sRet (vMove 1))))
def c_lsum : List S → FR := fnSem 3 1 [] c_lsumB
def c_lminusB : TSt :=
    (sRet (vCall [] (fills [] c_lplus) (aFz (vVar 0) (aFz (oV (oTup (qAnd (oQ (o2 dSub (qC (.int 0)) (oQ (o2 dSub1 (qVar 1) (qC (.int 0)))))) (qAnd (oQ (o2 dSub1 (qVar 1) (qC (.int 1)))) qNo)))) aNo))))
def c_lminus : List S → FR := fnSem 2 2 [] c_lminusB
def c_ltimesB : TSt :=
    (sRet (vCall [] (fills [] c_lpart) (aFz (oV (o2 dMul (oQ (o2 dSub1 (qVar 0) (qC (.int 0)))) (oQ (o2 dSub1 (qVar 1) (qC (.int 0)))))) (aFz (oV (o2 dMul (oQ (o2 dSub1 (qVar 0) (qC (.int 1)))) (oQ (o2 dSub1 (qVar 1) (qC (.int 1)))))) aNo))))
def c_ltimes : List S → FR := fnSem 2 2 [] c_ltimesB
def c_is_numberB : TSt :=
    (sSeq (sIf (bOr (bQ (oQ (o1 (dIsa "bool") (qVar 0)))) (bNot (bQ (oQ (o1 (dIsa "int") (qVar 0))))))
    (sRet (vQ (qC (.bl false))))
    sPass)
    (sRet (oV (oCh dLe dLe (qVar 1) (qVar 0) (qVar 2)))))
def c_is_number : List S → FR := fnSem 3 3 [] c_is_numberB
def c_checked_numberB : TSt :=
    (sSeq (sIf (bNot (bV (vCall [] (fills [] c_is_number) (aFz (vVar 0) (aFz (vVar 1) (aFz (vVar 2) aNo))))))
    (sRaise1 "InvalidNumber" (oV (o2 dAdd (oQ (o2 dAdd (oQ (o2 dAdd (qC (.str "no number from ")) (oQ (o1 dStr (qVar 1))))) (qC (.str " to ")))) (oQ (o1 dStr (qVar 2))))))
    sPass)
    (sRet (vVar 0)))
def c_checked_number : List S → FR := fnSem 3 3 [] c_checked_numberB
def c_checked_chanceB : TSt :=
    (sSeq (sIf (bOr (bNot (bV (vCall [] (fills [] c_is_part) (aFz (vVar 0) aNo)))) (bOr (bC (oV (o2 dLt (oQ (o2 dSub1 (qVar 0) (qC (.int 0)))) (qC (.int 0))))) (bC (oV (o2 dGt (oQ (o2 dSub1 (qVar 0) (qC (.int 0)))) (oQ (o2 dSub1 (qVar 0) (qC (.int 1)))))))))
    (sRaise "InvalidPaper")
    sPass)
    (sRet (vVar 0)))
def c_checked_chance : List S → FR := fnSem 1 1 [] c_checked_chanceB
def c_restB : TSt :=
    (sRet (vCall [] (fills [] c_minus) (aFz (oV (oTup (qAnd (qC (.int 1)) (qAnd (qC (.int 1)) qNo)))) (aFz (vCall [] (fills [] c_checked_chance) (aFz (vVar 0) aNo)) aNo))))
def c_rest : List S → FR := fnSem 1 1 [] c_restB
end
/-! ### Euclid's loop -/
theorem pow_pos2 (k : Nat) : 0 < 2 ^ k := Nat.two_pow_pos k
theorem gcd_loop {b : TB} {t : TSt} {E : Nat → Nat → Env → Prop}
    (h0 : ∀ a ρ, E a 0 ρ → ∃ ρ', b ρ = .ok (false, ρ') ∧ E a 0 ρ')
    (h1 : ∀ a c ρ, 0 < c → E a c ρ → ∃ ρ' ρ2, b ρ = .ok (true, ρ') ∧ t ρ' = .nx ρ2 ∧ E c (a % c) ρ2) :
    ∀ (k a c m : Nat) (ρ : Env), c < 2 ^ k → 2 * k + 1 ≤ m → E a c ρ → ∃ ρ', whileL b t m ρ = .nx ρ' ∧ E (Nat.gcd a c) 0 ρ' := by
  intro k
  induction k with
  | zero =>
    intro a c m ρ hc hm he
    have : c = 0 := by omega
    subst this
    obtain ⟨m, rfl⟩ : ∃ m', m = m' + 1 := ⟨m - 1, by omega⟩
    obtain ⟨ρ', e1, e2⟩ := h0 a ρ he
    exact ⟨ρ', by rw [e_wh, e1, e_stok]; rfl, by rw [Nat.gcd_zero_right]; exact e2⟩
  | succ k ih =>
    intro a c m ρ hc hm he
    obtain ⟨m, rfl⟩ : ∃ m', m = m' + 1 + 1 := ⟨m - 2, by omega⟩
    by_cases hz : c = 0
    · subst hz
      obtain ⟨ρ', e1, e2⟩ := h0 a ρ he
      exact ⟨ρ', by rw [e_wh, e1, e_stok]; rfl, by rw [Nat.gcd_zero_right]; exact e2⟩
    · obtain ⟨ρ1, ρ2, e1, e2, e3⟩ := h1 a c ρ (by omega) he
      have hr : a % c < c := Nat.mod_lt _ (by omega)
      rw [e_wh, e1, e_stok, if_pos rfl, e2, e_wBn]
      by_cases hz2 : a % c = 0
      · rw [hz2] at e3
        obtain ⟨ρ', e4, e5⟩ := h0 c ρ2 e3
        refine ⟨ρ', by rw [e_wh, e4, e_stok]; rfl, ?_⟩
        rw [Nat.gcd_comm, Nat.gcd_rec, hz2, Nat.gcd_zero_left]
        exact e5
      · obtain ⟨ρ3, ρ4, e4, e5, e6⟩ := h1 c (a % c) ρ2 (by omega) e3
        rw [e_wh, e4, e_stok, if_pos rfl, e5, e_wBn]
        have hlt : c % (a % c) < 2 ^ k := by
          have h3 : c % (a % c) < a % c := Nat.mod_lt _ (by omega)
          have h4 : a % c + c % (a % c) ≤ c := by
            have h5 := Nat.div_add_mod c (a % c)
            have h6 : 1 ≤ c / (a % c) := Nat.div_pos (by omega) (by omega)
            have h7 : a % c * 1 ≤ a % c * (c / (a % c)) := Nat.mul_le_mul_left _ h6
            omega
          rw [Nat.pow_succ] at hc
          omega
        obtain ⟨ρ', e7, e8⟩ := ih (a % c) (c % (a % c)) m ρ4 hlt (by omega) e6
        refine ⟨ρ', e7, ?_⟩
        have e9 : Nat.gcd a c = Nat.gcd (a % c) (c % (a % c)) := by
          rw [Nat.gcd_comm a c, Nat.gcd_rec c a, Nat.gcd_comm (a % c) c, Nat.gcd_comm c (a % c), Nat.gcd_rec (a % c) c]
          exact Nat.gcd_comm _ _
        rw [e9]; exact e8
theorem lt_two_log {n : Nat} {k : Nat} (h : n.log2 < k) : n < 2 ^ k := by
  by_cases hz : n = 0
  · subst hz; exact Nat.two_pow_pos k
  · exact (Nat.log2_lt hz).mp h
theorem common_eq {a c : Nat} (h : c.log2 < 9000) : c_common [.fz (.int a), .fz (.int c)] = .ok (.fz (.int (Nat.gcd a c : Nat))) [] := by
  obtain ⟨ρ', e1, e2⟩ := gcd_loop (b := bC (oV (o2 dGt (qVar 1) (qC (.int 0))))) (t := sPar 0 1 (aFz (vVar 1) (aFz (oV (o2 dMod (qVar 0) (qVar 1))) aNo)))
    (E := fun a c ρ => ρ = [some (.fz (.int (a : Nat))), some (.fz (.int (c : Nat)))])
    (fun a ρ h => ⟨_, by
      subst h
      have hp : ¬ (0 : Int) < ((0 : Nat) : Int) := by omega
      simp only [fnSem, begin, e_thok, e_thexc, e_stok, e_stexc, e_onx, e_ort, e_obk, e_oct, e_oexc, e_rOv, e_rOn, e_qOv, e_qOn, e_rS, e_rB, e_rV, e_rM, e_qS, e_oV, e_oQ, e_vQ, e_qVar, e_qC, e_vVar, e_vMove, e_o1, e_o2, e_v1, e_v2, e_bind, e_frz, e_frl, e_seq, e_set, e_ret, e_drop, e_pass, e_brk, e_cnt, e_raise, e_raise1, e_if, e_bC, e_bV, e_qT, e_bQ, e_bAnd, e_bOr, e_bNot, e_bYes, e_bl, e_trub, e_trui, e_trul, e_trut, e_trus, e_trun, e_int?, e_vIf, e_le, e_lt, e_ge, e_gt, e_add, e_sub, e_neg, e_abs, e_int, e_lenl, e_lent, e_lens, e_listl, e_listt, e_lists, e_min2, e_max2, e_ix, e_ixt, atI_nat, atI_0, atI_1, atI_2, atI_3, atI_4, e_mapv, e_pO, e_pP, e_sPut, e_aNo, e_aFz, e_aS, e_aSl, e_gS, e_argN, e_argF, e_argL, e_vCall, e_cA, e_cFok, e_cFexc, e_fills, e_qNo, e_qA, e_qAnd, e_oTup, e_oLst, e_tT, e_tL, e_sz, e_szl, e_vLst, e_vTup, e_dL, e_dT, e_allN, e_allC, e_mR, e_mL, e_mS, e_vLm, e_lA, e_lO, e_vAnd, e_vOrB, e_chA, e_oCh, e_sFor, e_iS, e_iSeq, e_itl, e_itt, e_its, e_iR, e_iRng0, e_forN, e_aName, e_aTup, e_aCons, e_aNil, e_vLc, e_vLc2, e_lR, e_wpN, e_wpC, e_rstF, e_rstL, e_rstN, e_rsN, e_rsC, Option.map_some, Option.map_none, List.getElem?_cons_zero, List.getElem?_cons_succ, List.set_cons_zero, List.set_cons_succ, List.map_cons, List.map_nil, List.cons_append, List.nil_append, List.append_nil, List.length_cons, List.length_nil, List.replicate, Nat.reduceAdd, Nat.reduceSub, if_true, if_false, ite_true, ite_false, decide_true, decide_false, Bool.false_eq_true, Bool.not_true, Bool.not_false, decide_eq_true_eq, decide_not, Bool.not_eq_true', decide_eq_false_iff_not, e_isaI, e_isaB, e_isaS, e_isaL, e_isaT, e_isaN, e_isa2I, e_isa2B, e_isa2S, e_isa2L, e_isa2T, e_isNnon, e_isNint, e_isNbl, e_isNstr, e_isNlst, e_isNtup, e_isB, e_eqI, e_neI, e_pow18, isaB, String.reduceBEq, Bool.or_false, Bool.false_or, Bool.and_false, Bool.false_and, Bool.true_and, Bool.and_true, Bool.or_true, Bool.true_or, Bool.xor_false, Bool.false_xor, Bool.xor_true, Bool.true_xor, e_mulS, e_divS, e_mod, e_append, e_put, e_put1, e_put2, e_put3, e_put4, e_frN, e_frR, e_frX, e_frE, e_frO, e_outN, e_outC, e_ou, e_notB, e_notL, e_slN, e_slF, e_slL, e_cmN, e_cmC, e_fzF, e_pb, e_pbF, e_putN, e_putC, List.nodup_cons, List.nodup_nil, List.not_mem_nil, List.mem_cons, not_false_eq_true, or_false, and_self, and_true, true_and, List.contains_cons, List.contains_nil, BEq.rfl, Int.reduceLT, Int.reduceLE, Int.reduceAdd, Int.reduceSub, Int.reduceMul, Int.reduceNeg, Int.reduceEq, Nat.reduceLT, Nat.reduceLeDiff, Nat.reduceMul, Int.toNat_natCast, hp], rfl⟩)
    (fun a c ρ hc h => by
      subst h
      have hp : (0 : Int) < (c : Int) := by omega
      refine ⟨[some (.fz (.int (a : Nat))), some (.fz (.int (c : Nat)))], [some (.fz (.int (c : Nat))), some (.fz (.int ((a % c : Nat))))], ?_, ?_, rfl⟩
      · simp only [fnSem, begin, e_thok, e_thexc, e_stok, e_stexc, e_onx, e_ort, e_obk, e_oct, e_oexc, e_rOv, e_rOn, e_qOv, e_qOn, e_rS, e_rB, e_rV, e_rM, e_qS, e_oV, e_oQ, e_vQ, e_qVar, e_qC, e_vVar, e_vMove, e_o1, e_o2, e_v1, e_v2, e_bind, e_frz, e_frl, e_seq, e_set, e_ret, e_drop, e_pass, e_brk, e_cnt, e_raise, e_raise1, e_if, e_bC, e_bV, e_qT, e_bQ, e_bAnd, e_bOr, e_bNot, e_bYes, e_bl, e_trub, e_trui, e_trul, e_trut, e_trus, e_trun, e_int?, e_vIf, e_le, e_lt, e_ge, e_gt, e_add, e_sub, e_neg, e_abs, e_int, e_lenl, e_lent, e_lens, e_listl, e_listt, e_lists, e_min2, e_max2, e_ix, e_ixt, atI_nat, atI_0, atI_1, atI_2, atI_3, atI_4, e_mapv, e_pO, e_pP, e_sPut, e_aNo, e_aFz, e_aS, e_aSl, e_gS, e_argN, e_argF, e_argL, e_vCall, e_cA, e_cFok, e_cFexc, e_fills, e_qNo, e_qA, e_qAnd, e_oTup, e_oLst, e_tT, e_tL, e_sz, e_szl, e_vLst, e_vTup, e_dL, e_dT, e_allN, e_allC, e_mR, e_mL, e_mS, e_vLm, e_lA, e_lO, e_vAnd, e_vOrB, e_chA, e_oCh, e_sFor, e_iS, e_iSeq, e_itl, e_itt, e_its, e_iR, e_iRng0, e_forN, e_aName, e_aTup, e_aCons, e_aNil, e_vLc, e_vLc2, e_lR, e_wpN, e_wpC, e_rstF, e_rstL, e_rstN, e_rsN, e_rsC, Option.map_some, Option.map_none, List.getElem?_cons_zero, List.getElem?_cons_succ, List.set_cons_zero, List.set_cons_succ, List.map_cons, List.map_nil, List.cons_append, List.nil_append, List.append_nil, List.length_cons, List.length_nil, List.replicate, Nat.reduceAdd, Nat.reduceSub, if_true, if_false, ite_true, ite_false, decide_true, decide_false, Bool.false_eq_true, Bool.not_true, Bool.not_false, decide_eq_true_eq, decide_not, Bool.not_eq_true', decide_eq_false_iff_not, e_isaI, e_isaB, e_isaS, e_isaL, e_isaT, e_isaN, e_isa2I, e_isa2B, e_isa2S, e_isa2L, e_isa2T, e_isNnon, e_isNint, e_isNbl, e_isNstr, e_isNlst, e_isNtup, e_isB, e_eqI, e_neI, e_pow18, isaB, String.reduceBEq, Bool.or_false, Bool.false_or, Bool.and_false, Bool.false_and, Bool.true_and, Bool.and_true, Bool.or_true, Bool.true_or, Bool.xor_false, Bool.false_xor, Bool.xor_true, Bool.true_xor, e_mulS, e_divS, e_mod, e_append, e_put, e_put1, e_put2, e_put3, e_put4, e_frN, e_frR, e_frX, e_frE, e_frO, e_outN, e_outC, e_ou, e_notB, e_notL, e_slN, e_slF, e_slL, e_cmN, e_cmC, e_fzF, e_pb, e_pbF, e_putN, e_putC, List.nodup_cons, List.nodup_nil, List.not_mem_nil, List.mem_cons, not_false_eq_true, or_false, and_self, and_true, true_and, List.contains_cons, List.contains_nil, BEq.rfl, Int.reduceLT, Int.reduceLE, Int.reduceAdd, Int.reduceSub, Int.reduceMul, Int.reduceNeg, Int.reduceEq, Nat.reduceLT, Nat.reduceLeDiff, Nat.reduceMul, Int.toNat_natCast, hp]
      · simp only [fnSem, begin, e_thok, e_thexc, e_stok, e_stexc, e_onx, e_ort, e_obk, e_oct, e_oexc, e_rOv, e_rOn, e_qOv, e_qOn, e_rS, e_rB, e_rV, e_rM, e_qS, e_oV, e_oQ, e_vQ, e_qVar, e_qC, e_vVar, e_vMove, e_o1, e_o2, e_v1, e_v2, e_bind, e_frz, e_frl, e_seq, e_set, e_ret, e_drop, e_pass, e_brk, e_cnt, e_raise, e_raise1, e_if, e_bC, e_bV, e_qT, e_bQ, e_bAnd, e_bOr, e_bNot, e_bYes, e_bl, e_trub, e_trui, e_trul, e_trut, e_trus, e_trun, e_int?, e_vIf, e_le, e_lt, e_ge, e_gt, e_add, e_sub, e_neg, e_abs, e_int, e_lenl, e_lent, e_lens, e_listl, e_listt, e_lists, e_min2, e_max2, e_ix, e_ixt, atI_nat, atI_0, atI_1, atI_2, atI_3, atI_4, e_mapv, e_pO, e_pP, e_sPut, e_aNo, e_aFz, e_aS, e_aSl, e_gS, e_argN, e_argF, e_argL, e_vCall, e_cA, e_cFok, e_cFexc, e_fills, e_qNo, e_qA, e_qAnd, e_oTup, e_oLst, e_tT, e_tL, e_sz, e_szl, e_vLst, e_vTup, e_dL, e_dT, e_allN, e_allC, e_mR, e_mL, e_mS, e_vLm, e_lA, e_lO, e_vAnd, e_vOrB, e_chA, e_oCh, e_sFor, e_iS, e_iSeq, e_itl, e_itt, e_its, e_iR, e_iRng0, e_forN, e_aName, e_aTup, e_aCons, e_aNil, e_vLc, e_vLc2, e_lR, e_wpN, e_wpC, e_rstF, e_rstL, e_rstN, e_rsN, e_rsC, Option.map_some, Option.map_none, List.getElem?_cons_zero, List.getElem?_cons_succ, List.set_cons_zero, List.set_cons_succ, List.map_cons, List.map_nil, List.cons_append, List.nil_append, List.append_nil, List.length_cons, List.length_nil, List.replicate, Nat.reduceAdd, Nat.reduceSub, if_true, if_false, ite_true, ite_false, decide_true, decide_false, Bool.false_eq_true, Bool.not_true, Bool.not_false, decide_eq_true_eq, decide_not, Bool.not_eq_true', decide_eq_false_iff_not, e_isaI, e_isaB, e_isaS, e_isaL, e_isaT, e_isaN, e_isa2I, e_isa2B, e_isa2S, e_isa2L, e_isa2T, e_isNnon, e_isNint, e_isNbl, e_isNstr, e_isNlst, e_isNtup, e_isB, e_eqI, e_neI, e_pow18, isaB, String.reduceBEq, Bool.or_false, Bool.false_or, Bool.and_false, Bool.false_and, Bool.true_and, Bool.and_true, Bool.or_true, Bool.true_or, Bool.xor_false, Bool.false_xor, Bool.xor_true, Bool.true_xor, e_mulS, e_divS, e_mod, e_append, e_put, e_put1, e_put2, e_put3, e_put4, e_frN, e_frR, e_frX, e_frE, e_frO, e_outN, e_outC, e_ou, e_notB, e_notL, e_slN, e_slF, e_slL, e_cmN, e_cmC, e_fzF, e_pb, e_pbF, e_putN, e_putC, List.nodup_cons, List.nodup_nil, List.not_mem_nil, List.mem_cons, not_false_eq_true, or_false, and_self, and_true, true_and, List.contains_cons, List.contains_nil, BEq.rfl, Int.reduceLT, Int.reduceLE, Int.reduceAdd, Int.reduceSub, Int.reduceMul, Int.reduceNeg, Int.reduceEq, Nat.reduceLT, Nat.reduceLeDiff, Nat.reduceMul, Int.toNat_natCast, hp, e_sPar, e_par2, Int.natCast_emod])
    9000 a c 20000 [some (.fz (.int (a : Nat))), some (.fz (.int (c : Nat)))] (lt_two_log h) (by omega) rfl
  subst e2
  unfold c_common c_commonB
  simp only [fnSem, begin, e_thok, e_thexc, e_stok, e_stexc, e_onx, e_ort, e_obk, e_oct, e_oexc, e_rOv, e_rOn, e_qOv, e_qOn, e_rS, e_rB, e_rV, e_rM, e_qS, e_oV, e_oQ, e_vQ, e_qVar, e_qC, e_vVar, e_vMove, e_o1, e_o2, e_v1, e_v2, e_bind, e_frz, e_frl, e_seq, e_set, e_ret, e_drop, e_pass, e_brk, e_cnt, e_raise, e_raise1, e_if, e_bC, e_bV, e_qT, e_bQ, e_bAnd, e_bOr, e_bNot, e_bYes, e_bl, e_trub, e_trui, e_trul, e_trut, e_trus, e_trun, e_int?, e_vIf, e_le, e_lt, e_ge, e_gt, e_add, e_sub, e_neg, e_abs, e_int, e_lenl, e_lent, e_lens, e_listl, e_listt, e_lists, e_min2, e_max2, e_ix, e_ixt, atI_nat, atI_0, atI_1, atI_2, atI_3, atI_4, e_mapv, e_pO, e_pP, e_sPut, e_aNo, e_aFz, e_aS, e_aSl, e_gS, e_argN, e_argF, e_argL, e_vCall, e_cA, e_cFok, e_cFexc, e_fills, e_qNo, e_qA, e_qAnd, e_oTup, e_oLst, e_tT, e_tL, e_sz, e_szl, e_vLst, e_vTup, e_dL, e_dT, e_allN, e_allC, e_mR, e_mL, e_mS, e_vLm, e_lA, e_lO, e_vAnd, e_vOrB, e_chA, e_oCh, e_sFor, e_iS, e_iSeq, e_itl, e_itt, e_its, e_iR, e_iRng0, e_forN, e_aName, e_aTup, e_aCons, e_aNil, e_vLc, e_vLc2, e_lR, e_wpN, e_wpC, e_rstF, e_rstL, e_rstN, e_rsN, e_rsC, Option.map_some, Option.map_none, List.getElem?_cons_zero, List.getElem?_cons_succ, List.set_cons_zero, List.set_cons_succ, List.map_cons, List.map_nil, List.cons_append, List.nil_append, List.append_nil, List.length_cons, List.length_nil, List.replicate, Nat.reduceAdd, Nat.reduceSub, if_true, if_false, ite_true, ite_false, decide_true, decide_false, Bool.false_eq_true, Bool.not_true, Bool.not_false, decide_eq_true_eq, decide_not, Bool.not_eq_true', decide_eq_false_iff_not, e_isaI, e_isaB, e_isaS, e_isaL, e_isaT, e_isaN, e_isa2I, e_isa2B, e_isa2S, e_isa2L, e_isa2T, e_isNnon, e_isNint, e_isNbl, e_isNstr, e_isNlst, e_isNtup, e_isB, e_eqI, e_neI, e_pow18, isaB, String.reduceBEq, Bool.or_false, Bool.false_or, Bool.and_false, Bool.false_and, Bool.true_and, Bool.and_true, Bool.or_true, Bool.true_or, Bool.xor_false, Bool.false_xor, Bool.xor_true, Bool.true_xor, e_mulS, e_divS, e_mod, e_append, e_put, e_put1, e_put2, e_put3, e_put4, e_frN, e_frR, e_frX, e_frE, e_frO, e_outN, e_outC, e_ou, e_notB, e_notL, e_slN, e_slF, e_slL, e_cmN, e_cmC, e_fzF, e_pb, e_pbF, e_putN, e_putC, List.nodup_cons, List.nodup_nil, List.not_mem_nil, List.mem_cons, not_false_eq_true, or_false, and_self, and_true, true_and, List.contains_cons, List.contains_nil, BEq.rfl, Int.reduceLT, Int.reduceLE, Int.reduceAdd, Int.reduceSub, Int.reduceMul, Int.reduceNeg, Int.reduceEq, Nat.reduceLT, Nat.reduceLeDiff, Nat.reduceMul, Int.toNat_natCast, e_sWh, e1]
theorem abs_nat (n : Int) : (if n < 0 then -n else n) = (n.natAbs : Int) := by split <;> omega
theorem nat_of {d : Int} (h : 0 < d) : d = (d.natAbs : Int) := by omega
/-- a fraction as the program shows it -/
abbrev fr2 (n d : Int) : D := .tup [.int n, .int d]
theorem gcd_pos {n d : Int} (h : 0 < d) : 0 < Nat.gcd n.natAbs d.natAbs := Nat.gcd_pos_of_pos_right _ (by omega)
theorem gcd_log {n d : Int} (h : 0 < d) (h2 : d.natAbs.log2 < 9000) : ((Nat.gcd n.natAbs d.natAbs : Nat) : Int).natAbs.log2 < 9000 := by
  rw [Int.natAbs_natCast]
  have h1 : Nat.gcd n.natAbs d.natAbs ≤ d.natAbs := Nat.gcd_le_right _ (by omega)
  exact log_lt (Nat.lt_of_le_of_lt h1 (lt_two_log h2)) (by decide)
theorem part_eq {n d : Int} (h : 0 < d) (h2 : d.natAbs.log2 < 9000) : c_part [.fz (.int n), .fz (.int d)] = .ok (.fz (fr2 (n / (Nat.gcd n.natAbs d.natAbs : Nat)) (d / (Nat.gcd n.natAbs d.natAbs : Nat)))) [] := by
  have e1 := common_eq (a := n.natAbs) (c := d.natAbs) h2
  rw [← nat_of h] at e1
  have g1 : (0 : Int) < (Nat.gcd n.natAbs d.natAbs : Nat) := by have := gcd_pos (n := n) h; omega
  have g2 := gcd_log (n := n) h h2
  have hd : ¬ d < 1 := by omega
  unfold c_part c_partB
  generalize Nat.gcd n.natAbs d.natAbs = g at *
  simp only [fnSem, begin, e_thok, e_thexc, e_stok, e_stexc, e_onx, e_ort, e_obk, e_oct, e_oexc, e_rOv, e_rOn, e_qOv, e_qOn, e_rS, e_rB, e_rV, e_rM, e_qS, e_oV, e_oQ, e_vQ, e_qVar, e_qC, e_vVar, e_vMove, e_o1, e_o2, e_v1, e_v2, e_bind, e_frz, e_frl, e_seq, e_set, e_ret, e_drop, e_pass, e_brk, e_cnt, e_raise, e_raise1, e_if, e_bC, e_bV, e_qT, e_bQ, e_bAnd, e_bOr, e_bNot, e_bYes, e_bl, e_trub, e_trui, e_trul, e_trut, e_trus, e_trun, e_int?, e_vIf, e_le, e_lt, e_ge, e_gt, e_add, e_sub, e_neg, e_abs, e_int, e_lenl, e_lent, e_lens, e_listl, e_listt, e_lists, e_min2, e_max2, e_ix, e_ixt, atI_nat, atI_0, atI_1, atI_2, atI_3, atI_4, e_mapv, e_pO, e_pP, e_sPut, e_aNo, e_aFz, e_aS, e_aSl, e_gS, e_argN, e_argF, e_argL, e_vCall, e_cA, e_cFok, e_cFexc, e_fills, e_qNo, e_qA, e_qAnd, e_oTup, e_oLst, e_tT, e_tL, e_sz, e_szl, e_vLst, e_vTup, e_dL, e_dT, e_allN, e_allC, e_mR, e_mL, e_mS, e_vLm, e_lA, e_lO, e_vAnd, e_vOrB, e_chA, e_oCh, e_sFor, e_iS, e_iSeq, e_itl, e_itt, e_its, e_iR, e_iRng0, e_forN, e_aName, e_aTup, e_aCons, e_aNil, e_vLc, e_vLc2, e_lR, e_wpN, e_wpC, e_rstF, e_rstL, e_rstN, e_rsN, e_rsC, Option.map_some, Option.map_none, List.getElem?_cons_zero, List.getElem?_cons_succ, List.set_cons_zero, List.set_cons_succ, List.map_cons, List.map_nil, List.cons_append, List.nil_append, List.append_nil, List.length_cons, List.length_nil, List.replicate, Nat.reduceAdd, Nat.reduceSub, if_true, if_false, ite_true, ite_false, decide_true, decide_false, Bool.false_eq_true, Bool.not_true, Bool.not_false, decide_eq_true_eq, decide_not, Bool.not_eq_true', decide_eq_false_iff_not, e_isaI, e_isaB, e_isaS, e_isaL, e_isaT, e_isaN, e_isa2I, e_isa2B, e_isa2S, e_isa2L, e_isa2T, e_isNnon, e_isNint, e_isNbl, e_isNstr, e_isNlst, e_isNtup, e_isB, e_eqI, e_neI, e_pow18, isaB, String.reduceBEq, Bool.or_false, Bool.false_or, Bool.and_false, Bool.false_and, Bool.true_and, Bool.and_true, Bool.or_true, Bool.true_or, Bool.xor_false, Bool.false_xor, Bool.xor_true, Bool.true_xor, e_mulS, e_divS, e_mod, e_append, e_put, e_put1, e_put2, e_put3, e_put4, e_frN, e_frR, e_frX, e_frE, e_frO, e_outN, e_outC, e_ou, e_notB, e_notL, e_slN, e_slF, e_slL, e_cmN, e_cmC, e_fzF, e_pb, e_pbF, e_putN, e_putC, List.nodup_cons, List.nodup_nil, List.not_mem_nil, List.mem_cons, not_false_eq_true, or_false, and_self, and_true, true_and, List.contains_cons, List.contains_nil, BEq.rfl, Int.reduceLT, Int.reduceLE, Int.reduceAdd, Int.reduceSub, Int.reduceMul, Int.reduceNeg, Int.reduceEq, Nat.reduceLT, Nat.reduceLeDiff, Nat.reduceMul, Int.toNat_natCast, hd, abs_nat, e1, e_div g1 g2]
theorem lpart_eq {n d : Int} (h : 0 < d) (h2 : d.natAbs.log2 < 9000) : c_lpart [.fz (.int n), .fz (.int d)] = .ok (.fz (fr2 (n / (Nat.gcd n.natAbs d.natAbs : Nat)) (d / (Nat.gcd n.natAbs d.natAbs : Nat)))) [] := by
  obtain ⟨ρ', e1, w, e2⟩ := gcd_loop (b := bC (oV (o2 dGt (qVar 3) (qC (.int 0))))) (t := sSeq (sSet 4 (oV (o2 dMod (oQ (o1 dInt (qVar 2))) (qVar 3)))) (sSeq (sSet 2 (vVar 3)) (sSet 3 (vVar 4))))
    (E := fun a c ρ => ∃ w, ρ = [some (.fz (.int n)), some (.fz (.int d)), some (.fz (.int (a : Nat))), some (.fz (.int (c : Nat))), w])
    (fun a ρ ⟨w, h⟩ => ⟨_, by
      subst h
      have hp : ¬ (0 : Int) < ((0 : Nat) : Int) := by omega
      simp only [fnSem, begin, e_thok, e_thexc, e_stok, e_stexc, e_onx, e_ort, e_obk, e_oct, e_oexc, e_rOv, e_rOn, e_qOv, e_qOn, e_rS, e_rB, e_rV, e_rM, e_qS, e_oV, e_oQ, e_vQ, e_qVar, e_qC, e_vVar, e_vMove, e_o1, e_o2, e_v1, e_v2, e_bind, e_frz, e_frl, e_seq, e_set, e_ret, e_drop, e_pass, e_brk, e_cnt, e_raise, e_raise1, e_if, e_bC, e_bV, e_qT, e_bQ, e_bAnd, e_bOr, e_bNot, e_bYes, e_bl, e_trub, e_trui, e_trul, e_trut, e_trus, e_trun, e_int?, e_vIf, e_le, e_lt, e_ge, e_gt, e_add, e_sub, e_neg, e_abs, e_int, e_lenl, e_lent, e_lens, e_listl, e_listt, e_lists, e_min2, e_max2, e_ix, e_ixt, atI_nat, atI_0, atI_1, atI_2, atI_3, atI_4, e_mapv, e_pO, e_pP, e_sPut, e_aNo, e_aFz, e_aS, e_aSl, e_gS, e_argN, e_argF, e_argL, e_vCall, e_cA, e_cFok, e_cFexc, e_fills, e_qNo, e_qA, e_qAnd, e_oTup, e_oLst, e_tT, e_tL, e_sz, e_szl, e_vLst, e_vTup, e_dL, e_dT, e_allN, e_allC, e_mR, e_mL, e_mS, e_vLm, e_lA, e_lO, e_vAnd, e_vOrB, e_chA, e_oCh, e_sFor, e_iS, e_iSeq, e_itl, e_itt, e_its, e_iR, e_iRng0, e_forN, e_aName, e_aTup, e_aCons, e_aNil, e_vLc, e_vLc2, e_lR, e_wpN, e_wpC, e_rstF, e_rstL, e_rstN, e_rsN, e_rsC, Option.map_some, Option.map_none, List.getElem?_cons_zero, List.getElem?_cons_succ, List.set_cons_zero, List.set_cons_succ, List.map_cons, List.map_nil, List.cons_append, List.nil_append, List.append_nil, List.length_cons, List.length_nil, List.replicate, Nat.reduceAdd, Nat.reduceSub, if_true, if_false, ite_true, ite_false, decide_true, decide_false, Bool.false_eq_true, Bool.not_true, Bool.not_false, decide_eq_true_eq, decide_not, Bool.not_eq_true', decide_eq_false_iff_not, e_isaI, e_isaB, e_isaS, e_isaL, e_isaT, e_isaN, e_isa2I, e_isa2B, e_isa2S, e_isa2L, e_isa2T, e_isNnon, e_isNint, e_isNbl, e_isNstr, e_isNlst, e_isNtup, e_isB, e_eqI, e_neI, e_pow18, isaB, String.reduceBEq, Bool.or_false, Bool.false_or, Bool.and_false, Bool.false_and, Bool.true_and, Bool.and_true, Bool.or_true, Bool.true_or, Bool.xor_false, Bool.false_xor, Bool.xor_true, Bool.true_xor, e_mulS, e_divS, e_mod, e_append, e_put, e_put1, e_put2, e_put3, e_put4, e_frN, e_frR, e_frX, e_frE, e_frO, e_outN, e_outC, e_ou, e_notB, e_notL, e_slN, e_slF, e_slL, e_cmN, e_cmC, e_fzF, e_pb, e_pbF, e_putN, e_putC, List.nodup_cons, List.nodup_nil, List.not_mem_nil, List.mem_cons, not_false_eq_true, or_false, and_self, and_true, true_and, List.contains_cons, List.contains_nil, BEq.rfl, Int.reduceLT, Int.reduceLE, Int.reduceAdd, Int.reduceSub, Int.reduceMul, Int.reduceNeg, Int.reduceEq, Nat.reduceLT, Nat.reduceLeDiff, Nat.reduceMul, Int.toNat_natCast, hp], w, rfl⟩)
    (fun a c ρ hc ⟨w, h⟩ => by
      subst h
      have hp : (0 : Int) < (c : Int) := by omega
      refine ⟨[some (.fz (.int n)), some (.fz (.int d)), some (.fz (.int (a : Nat))), some (.fz (.int (c : Nat))), w], [some (.fz (.int n)), some (.fz (.int d)), some (.fz (.int (c : Nat))), some (.fz (.int ((a % c : Nat)))), some (.fz (.int ((a % c : Nat))))], ?_, ?_, _, rfl⟩
      · simp only [fnSem, begin, e_thok, e_thexc, e_stok, e_stexc, e_onx, e_ort, e_obk, e_oct, e_oexc, e_rOv, e_rOn, e_qOv, e_qOn, e_rS, e_rB, e_rV, e_rM, e_qS, e_oV, e_oQ, e_vQ, e_qVar, e_qC, e_vVar, e_vMove, e_o1, e_o2, e_v1, e_v2, e_bind, e_frz, e_frl, e_seq, e_set, e_ret, e_drop, e_pass, e_brk, e_cnt, e_raise, e_raise1, e_if, e_bC, e_bV, e_qT, e_bQ, e_bAnd, e_bOr, e_bNot, e_bYes, e_bl, e_trub, e_trui, e_trul, e_trut, e_trus, e_trun, e_int?, e_vIf, e_le, e_lt, e_ge, e_gt, e_add, e_sub, e_neg, e_abs, e_int, e_lenl, e_lent, e_lens, e_listl, e_listt, e_lists, e_min2, e_max2, e_ix, e_ixt, atI_nat, atI_0, atI_1, atI_2, atI_3, atI_4, e_mapv, e_pO, e_pP, e_sPut, e_aNo, e_aFz, e_aS, e_aSl, e_gS, e_argN, e_argF, e_argL, e_vCall, e_cA, e_cFok, e_cFexc, e_fills, e_qNo, e_qA, e_qAnd, e_oTup, e_oLst, e_tT, e_tL, e_sz, e_szl, e_vLst, e_vTup, e_dL, e_dT, e_allN, e_allC, e_mR, e_mL, e_mS, e_vLm, e_lA, e_lO, e_vAnd, e_vOrB, e_chA, e_oCh, e_sFor, e_iS, e_iSeq, e_itl, e_itt, e_its, e_iR, e_iRng0, e_forN, e_aName, e_aTup, e_aCons, e_aNil, e_vLc, e_vLc2, e_lR, e_wpN, e_wpC, e_rstF, e_rstL, e_rstN, e_rsN, e_rsC, Option.map_some, Option.map_none, List.getElem?_cons_zero, List.getElem?_cons_succ, List.set_cons_zero, List.set_cons_succ, List.map_cons, List.map_nil, List.cons_append, List.nil_append, List.append_nil, List.length_cons, List.length_nil, List.replicate, Nat.reduceAdd, Nat.reduceSub, if_true, if_false, ite_true, ite_false, decide_true, decide_false, Bool.false_eq_true, Bool.not_true, Bool.not_false, decide_eq_true_eq, decide_not, Bool.not_eq_true', decide_eq_false_iff_not, e_isaI, e_isaB, e_isaS, e_isaL, e_isaT, e_isaN, e_isa2I, e_isa2B, e_isa2S, e_isa2L, e_isa2T, e_isNnon, e_isNint, e_isNbl, e_isNstr, e_isNlst, e_isNtup, e_isB, e_eqI, e_neI, e_pow18, isaB, String.reduceBEq, Bool.or_false, Bool.false_or, Bool.and_false, Bool.false_and, Bool.true_and, Bool.and_true, Bool.or_true, Bool.true_or, Bool.xor_false, Bool.false_xor, Bool.xor_true, Bool.true_xor, e_mulS, e_divS, e_mod, e_append, e_put, e_put1, e_put2, e_put3, e_put4, e_frN, e_frR, e_frX, e_frE, e_frO, e_outN, e_outC, e_ou, e_notB, e_notL, e_slN, e_slF, e_slL, e_cmN, e_cmC, e_fzF, e_pb, e_pbF, e_putN, e_putC, List.nodup_cons, List.nodup_nil, List.not_mem_nil, List.mem_cons, not_false_eq_true, or_false, and_self, and_true, true_and, List.contains_cons, List.contains_nil, BEq.rfl, Int.reduceLT, Int.reduceLE, Int.reduceAdd, Int.reduceSub, Int.reduceMul, Int.reduceNeg, Int.reduceEq, Nat.reduceLT, Nat.reduceLeDiff, Nat.reduceMul, Int.toNat_natCast, hp]
      · simp only [fnSem, begin, e_thok, e_thexc, e_stok, e_stexc, e_onx, e_ort, e_obk, e_oct, e_oexc, e_rOv, e_rOn, e_qOv, e_qOn, e_rS, e_rB, e_rV, e_rM, e_qS, e_oV, e_oQ, e_vQ, e_qVar, e_qC, e_vVar, e_vMove, e_o1, e_o2, e_v1, e_v2, e_bind, e_frz, e_frl, e_seq, e_set, e_ret, e_drop, e_pass, e_brk, e_cnt, e_raise, e_raise1, e_if, e_bC, e_bV, e_qT, e_bQ, e_bAnd, e_bOr, e_bNot, e_bYes, e_bl, e_trub, e_trui, e_trul, e_trut, e_trus, e_trun, e_int?, e_vIf, e_le, e_lt, e_ge, e_gt, e_add, e_sub, e_neg, e_abs, e_int, e_lenl, e_lent, e_lens, e_listl, e_listt, e_lists, e_min2, e_max2, e_ix, e_ixt, atI_nat, atI_0, atI_1, atI_2, atI_3, atI_4, e_mapv, e_pO, e_pP, e_sPut, e_aNo, e_aFz, e_aS, e_aSl, e_gS, e_argN, e_argF, e_argL, e_vCall, e_cA, e_cFok, e_cFexc, e_fills, e_qNo, e_qA, e_qAnd, e_oTup, e_oLst, e_tT, e_tL, e_sz, e_szl, e_vLst, e_vTup, e_dL, e_dT, e_allN, e_allC, e_mR, e_mL, e_mS, e_vLm, e_lA, e_lO, e_vAnd, e_vOrB, e_chA, e_oCh, e_sFor, e_iS, e_iSeq, e_itl, e_itt, e_its, e_iR, e_iRng0, e_forN, e_aName, e_aTup, e_aCons, e_aNil, e_vLc, e_vLc2, e_lR, e_wpN, e_wpC, e_rstF, e_rstL, e_rstN, e_rsN, e_rsC, Option.map_some, Option.map_none, List.getElem?_cons_zero, List.getElem?_cons_succ, List.set_cons_zero, List.set_cons_succ, List.map_cons, List.map_nil, List.cons_append, List.nil_append, List.append_nil, List.length_cons, List.length_nil, List.replicate, Nat.reduceAdd, Nat.reduceSub, if_true, if_false, ite_true, ite_false, decide_true, decide_false, Bool.false_eq_true, Bool.not_true, Bool.not_false, decide_eq_true_eq, decide_not, Bool.not_eq_true', decide_eq_false_iff_not, e_isaI, e_isaB, e_isaS, e_isaL, e_isaT, e_isaN, e_isa2I, e_isa2B, e_isa2S, e_isa2L, e_isa2T, e_isNnon, e_isNint, e_isNbl, e_isNstr, e_isNlst, e_isNtup, e_isB, e_eqI, e_neI, e_pow18, isaB, String.reduceBEq, Bool.or_false, Bool.false_or, Bool.and_false, Bool.false_and, Bool.true_and, Bool.and_true, Bool.or_true, Bool.true_or, Bool.xor_false, Bool.false_xor, Bool.xor_true, Bool.true_xor, e_mulS, e_divS, e_mod, e_append, e_put, e_put1, e_put2, e_put3, e_put4, e_frN, e_frR, e_frX, e_frE, e_frO, e_outN, e_outC, e_ou, e_notB, e_notL, e_slN, e_slF, e_slL, e_cmN, e_cmC, e_fzF, e_pb, e_pbF, e_putN, e_putC, List.nodup_cons, List.nodup_nil, List.not_mem_nil, List.mem_cons, not_false_eq_true, or_false, and_self, and_true, true_and, List.contains_cons, List.contains_nil, BEq.rfl, Int.reduceLT, Int.reduceLE, Int.reduceAdd, Int.reduceSub, Int.reduceMul, Int.reduceNeg, Int.reduceEq, Nat.reduceLT, Nat.reduceLeDiff, Nat.reduceMul, Int.toNat_natCast, hp, Int.natCast_emod])
    9000 n.natAbs d.natAbs 20000 [some (.fz (.int n)), some (.fz (.int d)), some (.fz (.int n.natAbs)), some (.fz (.int d.natAbs)), none] (lt_two_log h2) (by omega) ⟨_, rfl⟩
  subst e2
  rw [← nat_of h] at e1
  have g1 : (0 : Int) < (Nat.gcd n.natAbs d.natAbs : Nat) := by have := gcd_pos (n := n) h; omega
  have g2 := gcd_log (n := n) h h2
  unfold c_lpart c_lpartB
  generalize Nat.gcd n.natAbs d.natAbs = g at *
  simp only [fnSem, begin, e_thok, e_thexc, e_stok, e_stexc, e_onx, e_ort, e_obk, e_oct, e_oexc, e_rOv, e_rOn, e_qOv, e_qOn, e_rS, e_rB, e_rV, e_rM, e_qS, e_oV, e_oQ, e_vQ, e_qVar, e_qC, e_vVar, e_vMove, e_o1, e_o2, e_v1, e_v2, e_bind, e_frz, e_frl, e_seq, e_set, e_ret, e_drop, e_pass, e_brk, e_cnt, e_raise, e_raise1, e_if, e_bC, e_bV, e_qT, e_bQ, e_bAnd, e_bOr, e_bNot, e_bYes, e_bl, e_trub, e_trui, e_trul, e_trut, e_trus, e_trun, e_int?, e_vIf, e_le, e_lt, e_ge, e_gt, e_add, e_sub, e_neg, e_abs, e_int, e_lenl, e_lent, e_lens, e_listl, e_listt, e_lists, e_min2, e_max2, e_ix, e_ixt, atI_nat, atI_0, atI_1, atI_2, atI_3, atI_4, e_mapv, e_pO, e_pP, e_sPut, e_aNo, e_aFz, e_aS, e_aSl, e_gS, e_argN, e_argF, e_argL, e_vCall, e_cA, e_cFok, e_cFexc, e_fills, e_qNo, e_qA, e_qAnd, e_oTup, e_oLst, e_tT, e_tL, e_sz, e_szl, e_vLst, e_vTup, e_dL, e_dT, e_allN, e_allC, e_mR, e_mL, e_mS, e_vLm, e_lA, e_lO, e_vAnd, e_vOrB, e_chA, e_oCh, e_sFor, e_iS, e_iSeq, e_itl, e_itt, e_its, e_iR, e_iRng0, e_forN, e_aName, e_aTup, e_aCons, e_aNil, e_vLc, e_vLc2, e_lR, e_wpN, e_wpC, e_rstF, e_rstL, e_rstN, e_rsN, e_rsC, Option.map_some, Option.map_none, List.getElem?_cons_zero, List.getElem?_cons_succ, List.set_cons_zero, List.set_cons_succ, List.map_cons, List.map_nil, List.cons_append, List.nil_append, List.append_nil, List.length_cons, List.length_nil, List.replicate, Nat.reduceAdd, Nat.reduceSub, if_true, if_false, ite_true, ite_false, decide_true, decide_false, Bool.false_eq_true, Bool.not_true, Bool.not_false, decide_eq_true_eq, decide_not, Bool.not_eq_true', decide_eq_false_iff_not, e_isaI, e_isaB, e_isaS, e_isaL, e_isaT, e_isaN, e_isa2I, e_isa2B, e_isa2S, e_isa2L, e_isa2T, e_isNnon, e_isNint, e_isNbl, e_isNstr, e_isNlst, e_isNtup, e_isB, e_eqI, e_neI, e_pow18, isaB, String.reduceBEq, Bool.or_false, Bool.false_or, Bool.and_false, Bool.false_and, Bool.true_and, Bool.and_true, Bool.or_true, Bool.true_or, Bool.xor_false, Bool.false_xor, Bool.xor_true, Bool.true_xor, e_mulS, e_divS, e_mod, e_append, e_put, e_put1, e_put2, e_put3, e_put4, e_frN, e_frR, e_frX, e_frE, e_frO, e_outN, e_outC, e_ou, e_notB, e_notL, e_slN, e_slF, e_slL, e_cmN, e_cmC, e_fzF, e_pb, e_pbF, e_putN, e_putC, List.nodup_cons, List.nodup_nil, List.not_mem_nil, List.mem_cons, not_false_eq_true, or_false, and_self, and_true, true_and, List.contains_cons, List.contains_nil, BEq.rfl, Int.reduceLT, Int.reduceLE, Int.reduceAdd, Int.reduceSub, Int.reduceMul, Int.reduceNeg, Int.reduceEq, Nat.reduceLT, Nat.reduceLeDiff, Nat.reduceMul, Int.toNat_natCast, abs_nat, e_sWh, e1, e_div g1 g2]
end VS
set_option exponentiation.threshold 10000
namespace VS
open PySem PySem.Spec PyProof.Rows L2
/-- in lowest terms -/
def nfD (n d : Int) : D := fr2 (n / (Nat.gcd n.natAbs d.natAbs : Nat)) (d / (Nat.gcd n.natAbs d.natAbs : Nat))
/-- a fraction's parts are of a size that can be reckoned with -/
def fzB (a b : Int) : Bool := decide (0 < b) && (decide (a.natAbs.log2 < 4000) && decide (b.natAbs.log2 < 4000))
theorem fzB_iff {a b : Int} : fzB a b = true ↔ 0 < b ∧ a.natAbs.log2 < 4000 ∧ b.natAbs.log2 < 4000 := by
  unfold fzB
  simp only [Bool.and_eq_true, decide_eq_true_eq]
theorem log_mul {i j : Int} {k l : Nat} (h1 : i.natAbs.log2 < k) (h2 : j.natAbs.log2 < l) : (i * j).natAbs.log2 < k + l := by
  rw [Int.natAbs_mul]
  refine log_lt ?_ (by omega)
  rw [Nat.pow_add]
  exact Nat.mul_lt_mul'' (lt_two_log h1) (lt_two_log h2)
theorem e_mul4 {i j : Int} (h1 : i.natAbs.log2 < 4000) (h2 : j.natAbs.log2 < 4000) : dMul (.int i) (.int j) = some (.v (.int (i * j))) := e_mul (by omega)
section
variable {a b c d : Int} (h1 : fzB a b = true) (h2 : fzB c d = true)
include h1 h2
theorem plus_eq : c_plus [.fz (fr2 a b), .fz (fr2 c d)] = .ok (.fz (nfD (a * d + c * b) (b * d))) [] := by
  obtain ⟨b0, a1, b1⟩ := fzB_iff.mp h1
  obtain ⟨d0, c1, d1⟩ := fzB_iff.mp h2
  have e := part_eq (n := a * d + c * b) (Int.mul_pos b0 d0) (Nat.lt_trans (log_mul b1 d1) (by decide))
  unfold c_plus c_plusB
  simp only [fnSem, begin, e_thok, e_thexc, e_stok, e_stexc, e_onx, e_ort, e_obk, e_oct, e_oexc, e_rOv, e_rOn, e_qOv, e_qOn, e_rS, e_rB, e_rV, e_rM, e_qS, e_oV, e_oQ, e_vQ, e_qVar, e_qC, e_vVar, e_vMove, e_o1, e_o2, e_v1, e_v2, e_bind, e_frz, e_frl, e_seq, e_set, e_ret, e_drop, e_pass, e_brk, e_cnt, e_raise, e_raise1, e_if, e_bC, e_bV, e_qT, e_bQ, e_bAnd, e_bOr, e_bNot, e_bYes, e_bl, e_trub, e_trui, e_trul, e_trut, e_trus, e_trun, e_int?, e_vIf, e_le, e_lt, e_ge, e_gt, e_add, e_sub, e_neg, e_abs, e_int, e_lenl, e_lent, e_lens, e_listl, e_listt, e_lists, e_min2, e_max2, e_ix, e_ixt, atI_nat, atI_0, atI_1, atI_2, atI_3, atI_4, e_mapv, e_pO, e_pP, e_sPut, e_aNo, e_aFz, e_aS, e_aSl, e_gS, e_argN, e_argF, e_argL, e_vCall, e_cA, e_cFok, e_cFexc, e_fills, e_qNo, e_qA, e_qAnd, e_oTup, e_oLst, e_tT, e_tL, e_sz, e_szl, e_vLst, e_vTup, e_dL, e_dT, e_allN, e_allC, e_mR, e_mL, e_mS, e_vLm, e_lA, e_lO, e_vAnd, e_vOrB, e_chA, e_oCh, e_sFor, e_iS, e_iSeq, e_itl, e_itt, e_its, e_iR, e_iRng0, e_forN, e_aName, e_aTup, e_aCons, e_aNil, e_vLc, e_vLc2, e_lR, e_wpN, e_wpC, e_rstF, e_rstL, e_rstN, e_rsN, e_rsC, Option.map_some, Option.map_none, List.getElem?_cons_zero, List.getElem?_cons_succ, List.set_cons_zero, List.set_cons_succ, List.map_cons, List.map_nil, List.cons_append, List.nil_append, List.append_nil, List.length_cons, List.length_nil, List.replicate, Nat.reduceAdd, Nat.reduceSub, if_true, if_false, ite_true, ite_false, decide_true, decide_false, Bool.false_eq_true, Bool.not_true, Bool.not_false, decide_eq_true_eq, decide_not, Bool.not_eq_true', decide_eq_false_iff_not, e_isaI, e_isaB, e_isaS, e_isaL, e_isaT, e_isaN, e_isa2I, e_isa2B, e_isa2S, e_isa2L, e_isa2T, e_isNnon, e_isNint, e_isNbl, e_isNstr, e_isNlst, e_isNtup, e_isB, e_eqI, e_neI, e_pow18, isaB, String.reduceBEq, Bool.or_false, Bool.false_or, Bool.and_false, Bool.false_and, Bool.true_and, Bool.and_true, Bool.or_true, Bool.true_or, Bool.xor_false, Bool.false_xor, Bool.xor_true, Bool.true_xor, e_mulS, e_divS, e_mod, e_append, e_put, e_put1, e_put2, e_put3, e_put4, e_frN, e_frR, e_frX, e_frE, e_frO, e_outN, e_outC, e_ou, e_notB, e_notL, e_slN, e_slF, e_slL, e_cmN, e_cmC, e_fzF, e_pb, e_pbF, e_putN, e_putC, List.nodup_cons, List.nodup_nil, List.not_mem_nil, List.mem_cons, not_false_eq_true, or_false, and_self, and_true, true_and, List.contains_cons, List.contains_nil, BEq.rfl, Int.reduceLT, Int.reduceLE, Int.reduceAdd, Int.reduceSub, Int.reduceMul, Int.reduceNeg, Int.reduceEq, Nat.reduceLT, Nat.reduceLeDiff, Nat.reduceMul, Int.toNat_natCast, e_mul4 a1 d1, e_mul4 c1 b1, e_mul4 b1 d1, e, nfD]
theorem minus_eq : c_minus [.fz (fr2 a b), .fz (fr2 c d)] = .ok (.fz (nfD (a * d - c * b) (b * d))) [] := by
  obtain ⟨b0, a1, b1⟩ := fzB_iff.mp h1
  obtain ⟨d0, c1, d1⟩ := fzB_iff.mp h2
  have e := part_eq (n := a * d - c * b) (Int.mul_pos b0 d0) (Nat.lt_trans (log_mul b1 d1) (by decide))
  unfold c_minus c_minusB
  simp only [fnSem, begin, e_thok, e_thexc, e_stok, e_stexc, e_onx, e_ort, e_obk, e_oct, e_oexc, e_rOv, e_rOn, e_qOv, e_qOn, e_rS, e_rB, e_rV, e_rM, e_qS, e_oV, e_oQ, e_vQ, e_qVar, e_qC, e_vVar, e_vMove, e_o1, e_o2, e_v1, e_v2, e_bind, e_frz, e_frl, e_seq, e_set, e_ret, e_drop, e_pass, e_brk, e_cnt, e_raise, e_raise1, e_if, e_bC, e_bV, e_qT, e_bQ, e_bAnd, e_bOr, e_bNot, e_bYes, e_bl, e_trub, e_trui, e_trul, e_trut, e_trus, e_trun, e_int?, e_vIf, e_le, e_lt, e_ge, e_gt, e_add, e_sub, e_neg, e_abs, e_int, e_lenl, e_lent, e_lens, e_listl, e_listt, e_lists, e_min2, e_max2, e_ix, e_ixt, atI_nat, atI_0, atI_1, atI_2, atI_3, atI_4, e_mapv, e_pO, e_pP, e_sPut, e_aNo, e_aFz, e_aS, e_aSl, e_gS, e_argN, e_argF, e_argL, e_vCall, e_cA, e_cFok, e_cFexc, e_fills, e_qNo, e_qA, e_qAnd, e_oTup, e_oLst, e_tT, e_tL, e_sz, e_szl, e_vLst, e_vTup, e_dL, e_dT, e_allN, e_allC, e_mR, e_mL, e_mS, e_vLm, e_lA, e_lO, e_vAnd, e_vOrB, e_chA, e_oCh, e_sFor, e_iS, e_iSeq, e_itl, e_itt, e_its, e_iR, e_iRng0, e_forN, e_aName, e_aTup, e_aCons, e_aNil, e_vLc, e_vLc2, e_lR, e_wpN, e_wpC, e_rstF, e_rstL, e_rstN, e_rsN, e_rsC, Option.map_some, Option.map_none, List.getElem?_cons_zero, List.getElem?_cons_succ, List.set_cons_zero, List.set_cons_succ, List.map_cons, List.map_nil, List.cons_append, List.nil_append, List.append_nil, List.length_cons, List.length_nil, List.replicate, Nat.reduceAdd, Nat.reduceSub, if_true, if_false, ite_true, ite_false, decide_true, decide_false, Bool.false_eq_true, Bool.not_true, Bool.not_false, decide_eq_true_eq, decide_not, Bool.not_eq_true', decide_eq_false_iff_not, e_isaI, e_isaB, e_isaS, e_isaL, e_isaT, e_isaN, e_isa2I, e_isa2B, e_isa2S, e_isa2L, e_isa2T, e_isNnon, e_isNint, e_isNbl, e_isNstr, e_isNlst, e_isNtup, e_isB, e_eqI, e_neI, e_pow18, isaB, String.reduceBEq, Bool.or_false, Bool.false_or, Bool.and_false, Bool.false_and, Bool.true_and, Bool.and_true, Bool.or_true, Bool.true_or, Bool.xor_false, Bool.false_xor, Bool.xor_true, Bool.true_xor, e_mulS, e_divS, e_mod, e_append, e_put, e_put1, e_put2, e_put3, e_put4, e_frN, e_frR, e_frX, e_frE, e_frO, e_outN, e_outC, e_ou, e_notB, e_notL, e_slN, e_slF, e_slL, e_cmN, e_cmC, e_fzF, e_pb, e_pbF, e_putN, e_putC, List.nodup_cons, List.nodup_nil, List.not_mem_nil, List.mem_cons, not_false_eq_true, or_false, and_self, and_true, true_and, List.contains_cons, List.contains_nil, BEq.rfl, Int.reduceLT, Int.reduceLE, Int.reduceAdd, Int.reduceSub, Int.reduceMul, Int.reduceNeg, Int.reduceEq, Nat.reduceLT, Nat.reduceLeDiff, Nat.reduceMul, Int.toNat_natCast, e_mul4 a1 d1, e_mul4 c1 b1, e_mul4 b1 d1, e, nfD]
theorem times_eq : c_times [.fz (fr2 a b), .fz (fr2 c d)] = .ok (.fz (nfD (a * c) (b * d))) [] := by
  obtain ⟨b0, a1, b1⟩ := fzB_iff.mp h1
  obtain ⟨d0, c1, d1⟩ := fzB_iff.mp h2
  have e := part_eq (n := a * c) (Int.mul_pos b0 d0) (Nat.lt_trans (log_mul b1 d1) (by decide))
  unfold c_times c_timesB
  simp only [fnSem, begin, e_thok, e_thexc, e_stok, e_stexc, e_onx, e_ort, e_obk, e_oct, e_oexc, e_rOv, e_rOn, e_qOv, e_qOn, e_rS, e_rB, e_rV, e_rM, e_qS, e_oV, e_oQ, e_vQ, e_qVar, e_qC, e_vVar, e_vMove, e_o1, e_o2, e_v1, e_v2, e_bind, e_frz, e_frl, e_seq, e_set, e_ret, e_drop, e_pass, e_brk, e_cnt, e_raise, e_raise1, e_if, e_bC, e_bV, e_qT, e_bQ, e_bAnd, e_bOr, e_bNot, e_bYes, e_bl, e_trub, e_trui, e_trul, e_trut, e_trus, e_trun, e_int?, e_vIf, e_le, e_lt, e_ge, e_gt, e_add, e_sub, e_neg, e_abs, e_int, e_lenl, e_lent, e_lens, e_listl, e_listt, e_lists, e_min2, e_max2, e_ix, e_ixt, atI_nat, atI_0, atI_1, atI_2, atI_3, atI_4, e_mapv, e_pO, e_pP, e_sPut, e_aNo, e_aFz, e_aS, e_aSl, e_gS, e_argN, e_argF, e_argL, e_vCall, e_cA, e_cFok, e_cFexc, e_fills, e_qNo, e_qA, e_qAnd, e_oTup, e_oLst, e_tT, e_tL, e_sz, e_szl, e_vLst, e_vTup, e_dL, e_dT, e_allN, e_allC, e_mR, e_mL, e_mS, e_vLm, e_lA, e_lO, e_vAnd, e_vOrB, e_chA, e_oCh, e_sFor, e_iS, e_iSeq, e_itl, e_itt, e_its, e_iR, e_iRng0, e_forN, e_aName, e_aTup, e_aCons, e_aNil, e_vLc, e_vLc2, e_lR, e_wpN, e_wpC, e_rstF, e_rstL, e_rstN, e_rsN, e_rsC, Option.map_some, Option.map_none, List.getElem?_cons_zero, List.getElem?_cons_succ, List.set_cons_zero, List.set_cons_succ, List.map_cons, List.map_nil, List.cons_append, List.nil_append, List.append_nil, List.length_cons, List.length_nil, List.replicate, Nat.reduceAdd, Nat.reduceSub, if_true, if_false, ite_true, ite_false, decide_true, decide_false, Bool.false_eq_true, Bool.not_true, Bool.not_false, decide_eq_true_eq, decide_not, Bool.not_eq_true', decide_eq_false_iff_not, e_isaI, e_isaB, e_isaS, e_isaL, e_isaT, e_isaN, e_isa2I, e_isa2B, e_isa2S, e_isa2L, e_isa2T, e_isNnon, e_isNint, e_isNbl, e_isNstr, e_isNlst, e_isNtup, e_isB, e_eqI, e_neI, e_pow18, isaB, String.reduceBEq, Bool.or_false, Bool.false_or, Bool.and_false, Bool.false_and, Bool.true_and, Bool.and_true, Bool.or_true, Bool.true_or, Bool.xor_false, Bool.false_xor, Bool.xor_true, Bool.true_xor, e_mulS, e_divS, e_mod, e_append, e_put, e_put1, e_put2, e_put3, e_put4, e_frN, e_frR, e_frX, e_frE, e_frO, e_outN, e_outC, e_ou, e_notB, e_notL, e_slN, e_slF, e_slL, e_cmN, e_cmC, e_fzF, e_pb, e_pbF, e_putN, e_putC, List.nodup_cons, List.nodup_nil, List.not_mem_nil, List.mem_cons, not_false_eq_true, or_false, and_self, and_true, true_and, List.contains_cons, List.contains_nil, BEq.rfl, Int.reduceLT, Int.reduceLE, Int.reduceAdd, Int.reduceSub, Int.reduceMul, Int.reduceNeg, Int.reduceEq, Nat.reduceLT, Nat.reduceLeDiff, Nat.reduceMul, Int.toNat_natCast, e_mul4 a1 c1, e_mul4 b1 d1, e, nfD]
theorem less_eq : c_is_less [.fz (fr2 a b), .fz (fr2 c d)] = .ok (.fz (.bl (decide (a * d < c * b)))) [] := by
  obtain ⟨b0, a1, b1⟩ := fzB_iff.mp h1
  obtain ⟨d0, c1, d1⟩ := fzB_iff.mp h2
  unfold c_is_less c_is_lessB
  simp only [fnSem, begin, e_thok, e_thexc, e_stok, e_stexc, e_onx, e_ort, e_obk, e_oct, e_oexc, e_rOv, e_rOn, e_qOv, e_qOn, e_rS, e_rB, e_rV, e_rM, e_qS, e_oV, e_oQ, e_vQ, e_qVar, e_qC, e_vVar, e_vMove, e_o1, e_o2, e_v1, e_v2, e_bind, e_frz, e_frl, e_seq, e_set, e_ret, e_drop, e_pass, e_brk, e_cnt, e_raise, e_raise1, e_if, e_bC, e_bV, e_qT, e_bQ, e_bAnd, e_bOr, e_bNot, e_bYes, e_bl, e_trub, e_trui, e_trul, e_trut, e_trus, e_trun, e_int?, e_vIf, e_le, e_lt, e_ge, e_gt, e_add, e_sub, e_neg, e_abs, e_int, e_lenl, e_lent, e_lens, e_listl, e_listt, e_lists, e_min2, e_max2, e_ix, e_ixt, atI_nat, atI_0, atI_1, atI_2, atI_3, atI_4, e_mapv, e_pO, e_pP, e_sPut, e_aNo, e_aFz, e_aS, e_aSl, e_gS, e_argN, e_argF, e_argL, e_vCall, e_cA, e_cFok, e_cFexc, e_fills, e_qNo, e_qA, e_qAnd, e_oTup, e_oLst, e_tT, e_tL, e_sz, e_szl, e_vLst, e_vTup, e_dL, e_dT, e_allN, e_allC, e_mR, e_mL, e_mS, e_vLm, e_lA, e_lO, e_vAnd, e_vOrB, e_chA, e_oCh, e_sFor, e_iS, e_iSeq, e_itl, e_itt, e_its, e_iR, e_iRng0, e_forN, e_aName, e_aTup, e_aCons, e_aNil, e_vLc, e_vLc2, e_lR, e_wpN, e_wpC, e_rstF, e_rstL, e_rstN, e_rsN, e_rsC, Option.map_some, Option.map_none, List.getElem?_cons_zero, List.getElem?_cons_succ, List.set_cons_zero, List.set_cons_succ, List.map_cons, List.map_nil, List.cons_append, List.nil_append, List.append_nil, List.length_cons, List.length_nil, List.replicate, Nat.reduceAdd, Nat.reduceSub, if_true, if_false, ite_true, ite_false, decide_true, decide_false, Bool.false_eq_true, Bool.not_true, Bool.not_false, decide_eq_true_eq, decide_not, Bool.not_eq_true', decide_eq_false_iff_not, e_isaI, e_isaB, e_isaS, e_isaL, e_isaT, e_isaN, e_isa2I, e_isa2B, e_isa2S, e_isa2L, e_isa2T, e_isNnon, e_isNint, e_isNbl, e_isNstr, e_isNlst, e_isNtup, e_isB, e_eqI, e_neI, e_pow18, isaB, String.reduceBEq, Bool.or_false, Bool.false_or, Bool.and_false, Bool.false_and, Bool.true_and, Bool.and_true, Bool.or_true, Bool.true_or, Bool.xor_false, Bool.false_xor, Bool.xor_true, Bool.true_xor, e_mulS, e_divS, e_mod, e_append, e_put, e_put1, e_put2, e_put3, e_put4, e_frN, e_frR, e_frX, e_frE, e_frO, e_outN, e_outC, e_ou, e_notB, e_notL, e_slN, e_slF, e_slL, e_cmN, e_cmC, e_fzF, e_pb, e_pbF, e_putN, e_putC, List.nodup_cons, List.nodup_nil, List.not_mem_nil, List.mem_cons, not_false_eq_true, or_false, and_self, and_true, true_and, List.contains_cons, List.contains_nil, BEq.rfl, Int.reduceLT, Int.reduceLE, Int.reduceAdd, Int.reduceSub, Int.reduceMul, Int.reduceNeg, Int.reduceEq, Nat.reduceLT, Nat.reduceLeDiff, Nat.reduceMul, Int.toNat_natCast, e_mul4 a1 d1, e_mul4 c1 b1]
theorem lless_eq : c_lless [.fz (fr2 a b), .fz (fr2 c d)] = .ok (.fz (.bl (decide (a * d < c * b)))) [] := by
  obtain ⟨b0, a1, b1⟩ := fzB_iff.mp h1
  obtain ⟨d0, c1, d1⟩ := fzB_iff.mp h2
  unfold c_lless c_llessB
  simp only [fnSem, begin, e_thok, e_thexc, e_stok, e_stexc, e_onx, e_ort, e_obk, e_oct, e_oexc, e_rOv, e_rOn, e_qOv, e_qOn, e_rS, e_rB, e_rV, e_rM, e_qS, e_oV, e_oQ, e_vQ, e_qVar, e_qC, e_vVar, e_vMove, e_o1, e_o2, e_v1, e_v2, e_bind, e_frz, e_frl, e_seq, e_set, e_ret, e_drop, e_pass, e_brk, e_cnt, e_raise, e_raise1, e_if, e_bC, e_bV, e_qT, e_bQ, e_bAnd, e_bOr, e_bNot, e_bYes, e_bl, e_trub, e_trui, e_trul, e_trut, e_trus, e_trun, e_int?, e_vIf, e_le, e_lt, e_ge, e_gt, e_add, e_sub, e_neg, e_abs, e_int, e_lenl, e_lent, e_lens, e_listl, e_listt, e_lists, e_min2, e_max2, e_ix, e_ixt, atI_nat, atI_0, atI_1, atI_2, atI_3, atI_4, e_mapv, e_pO, e_pP, e_sPut, e_aNo, e_aFz, e_aS, e_aSl, e_gS, e_argN, e_argF, e_argL, e_vCall, e_cA, e_cFok, e_cFexc, e_fills, e_qNo, e_qA, e_qAnd, e_oTup, e_oLst, e_tT, e_tL, e_sz, e_szl, e_vLst, e_vTup, e_dL, e_dT, e_allN, e_allC, e_mR, e_mL, e_mS, e_vLm, e_lA, e_lO, e_vAnd, e_vOrB, e_chA, e_oCh, e_sFor, e_iS, e_iSeq, e_itl, e_itt, e_its, e_iR, e_iRng0, e_forN, e_aName, e_aTup, e_aCons, e_aNil, e_vLc, e_vLc2, e_lR, e_wpN, e_wpC, e_rstF, e_rstL, e_rstN, e_rsN, e_rsC, Option.map_some, Option.map_none, List.getElem?_cons_zero, List.getElem?_cons_succ, List.set_cons_zero, List.set_cons_succ, List.map_cons, List.map_nil, List.cons_append, List.nil_append, List.append_nil, List.length_cons, List.length_nil, List.replicate, Nat.reduceAdd, Nat.reduceSub, if_true, if_false, ite_true, ite_false, decide_true, decide_false, Bool.false_eq_true, Bool.not_true, Bool.not_false, decide_eq_true_eq, decide_not, Bool.not_eq_true', decide_eq_false_iff_not, e_isaI, e_isaB, e_isaS, e_isaL, e_isaT, e_isaN, e_isa2I, e_isa2B, e_isa2S, e_isa2L, e_isa2T, e_isNnon, e_isNint, e_isNbl, e_isNstr, e_isNlst, e_isNtup, e_isB, e_eqI, e_neI, e_pow18, isaB, String.reduceBEq, Bool.or_false, Bool.false_or, Bool.and_false, Bool.false_and, Bool.true_and, Bool.and_true, Bool.or_true, Bool.true_or, Bool.xor_false, Bool.false_xor, Bool.xor_true, Bool.true_xor, e_mulS, e_divS, e_mod, e_append, e_put, e_put1, e_put2, e_put3, e_put4, e_frN, e_frR, e_frX, e_frE, e_frO, e_outN, e_outC, e_ou, e_notB, e_notL, e_slN, e_slF, e_slL, e_cmN, e_cmC, e_fzF, e_pb, e_pbF, e_putN, e_putC, List.nodup_cons, List.nodup_nil, List.not_mem_nil, List.mem_cons, not_false_eq_true, or_false, and_self, and_true, true_and, List.contains_cons, List.contains_nil, BEq.rfl, Int.reduceLT, Int.reduceLE, Int.reduceAdd, Int.reduceSub, Int.reduceMul, Int.reduceNeg, Int.reduceEq, Nat.reduceLT, Nat.reduceLeDiff, Nat.reduceMul, Int.toNat_natCast, e_mul4 a1 d1, e_mul4 c1 b1]
theorem lplus_eq : c_lplus [.fz (fr2 a b), .fz (fr2 c d)] = .ok (.fz (nfD (a * d + c * b) (b * d))) [] := by
  obtain ⟨b0, a1, b1⟩ := fzB_iff.mp h1
  obtain ⟨d0, c1, d1⟩ := fzB_iff.mp h2
  have e := lpart_eq (n := a * d + c * b) (Int.mul_pos b0 d0) (Nat.lt_trans (log_mul b1 d1) (by decide))
  unfold c_lplus c_lplusB
  simp only [fnSem, begin, e_thok, e_thexc, e_stok, e_stexc, e_onx, e_ort, e_obk, e_oct, e_oexc, e_rOv, e_rOn, e_qOv, e_qOn, e_rS, e_rB, e_rV, e_rM, e_qS, e_oV, e_oQ, e_vQ, e_qVar, e_qC, e_vVar, e_vMove, e_o1, e_o2, e_v1, e_v2, e_bind, e_frz, e_frl, e_seq, e_set, e_ret, e_drop, e_pass, e_brk, e_cnt, e_raise, e_raise1, e_if, e_bC, e_bV, e_qT, e_bQ, e_bAnd, e_bOr, e_bNot, e_bYes, e_bl, e_trub, e_trui, e_trul, e_trut, e_trus, e_trun, e_int?, e_vIf, e_le, e_lt, e_ge, e_gt, e_add, e_sub, e_neg, e_abs, e_int, e_lenl, e_lent, e_lens, e_listl, e_listt, e_lists, e_min2, e_max2, e_ix, e_ixt, atI_nat, atI_0, atI_1, atI_2, atI_3, atI_4, e_mapv, e_pO, e_pP, e_sPut, e_aNo, e_aFz, e_aS, e_aSl, e_gS, e_argN, e_argF, e_argL, e_vCall, e_cA, e_cFok, e_cFexc, e_fills, e_qNo, e_qA, e_qAnd, e_oTup, e_oLst, e_tT, e_tL, e_sz, e_szl, e_vLst, e_vTup, e_dL, e_dT, e_allN, e_allC, e_mR, e_mL, e_mS, e_vLm, e_lA, e_lO, e_vAnd, e_vOrB, e_chA, e_oCh, e_sFor, e_iS, e_iSeq, e_itl, e_itt, e_its, e_iR, e_iRng0, e_forN, e_aName, e_aTup, e_aCons, e_aNil, e_vLc, e_vLc2, e_lR, e_wpN, e_wpC, e_rstF, e_rstL, e_rstN, e_rsN, e_rsC, Option.map_some, Option.map_none, List.getElem?_cons_zero, List.getElem?_cons_succ, List.set_cons_zero, List.set_cons_succ, List.map_cons, List.map_nil, List.cons_append, List.nil_append, List.append_nil, List.length_cons, List.length_nil, List.replicate, Nat.reduceAdd, Nat.reduceSub, if_true, if_false, ite_true, ite_false, decide_true, decide_false, Bool.false_eq_true, Bool.not_true, Bool.not_false, decide_eq_true_eq, decide_not, Bool.not_eq_true', decide_eq_false_iff_not, e_isaI, e_isaB, e_isaS, e_isaL, e_isaT, e_isaN, e_isa2I, e_isa2B, e_isa2S, e_isa2L, e_isa2T, e_isNnon, e_isNint, e_isNbl, e_isNstr, e_isNlst, e_isNtup, e_isB, e_eqI, e_neI, e_pow18, isaB, String.reduceBEq, Bool.or_false, Bool.false_or, Bool.and_false, Bool.false_and, Bool.true_and, Bool.and_true, Bool.or_true, Bool.true_or, Bool.xor_false, Bool.false_xor, Bool.xor_true, Bool.true_xor, e_mulS, e_divS, e_mod, e_append, e_put, e_put1, e_put2, e_put3, e_put4, e_frN, e_frR, e_frX, e_frE, e_frO, e_outN, e_outC, e_ou, e_notB, e_notL, e_slN, e_slF, e_slL, e_cmN, e_cmC, e_fzF, e_pb, e_pbF, e_putN, e_putC, List.nodup_cons, List.nodup_nil, List.not_mem_nil, List.mem_cons, not_false_eq_true, or_false, and_self, and_true, true_and, List.contains_cons, List.contains_nil, BEq.rfl, Int.reduceLT, Int.reduceLE, Int.reduceAdd, Int.reduceSub, Int.reduceMul, Int.reduceNeg, Int.reduceEq, Nat.reduceLT, Nat.reduceLeDiff, Nat.reduceMul, Int.toNat_natCast, e_mul4 a1 d1, e_mul4 c1 b1, e_mul4 b1 d1, e, nfD]
theorem ltimes_eq : c_ltimes [.fz (fr2 a b), .fz (fr2 c d)] = .ok (.fz (nfD (a * c) (b * d))) [] := by
  obtain ⟨b0, a1, b1⟩ := fzB_iff.mp h1
  obtain ⟨d0, c1, d1⟩ := fzB_iff.mp h2
  have e := lpart_eq (n := a * c) (Int.mul_pos b0 d0) (Nat.lt_trans (log_mul b1 d1) (by decide))
  unfold c_ltimes c_ltimesB
  simp only [fnSem, begin, e_thok, e_thexc, e_stok, e_stexc, e_onx, e_ort, e_obk, e_oct, e_oexc, e_rOv, e_rOn, e_qOv, e_qOn, e_rS, e_rB, e_rV, e_rM, e_qS, e_oV, e_oQ, e_vQ, e_qVar, e_qC, e_vVar, e_vMove, e_o1, e_o2, e_v1, e_v2, e_bind, e_frz, e_frl, e_seq, e_set, e_ret, e_drop, e_pass, e_brk, e_cnt, e_raise, e_raise1, e_if, e_bC, e_bV, e_qT, e_bQ, e_bAnd, e_bOr, e_bNot, e_bYes, e_bl, e_trub, e_trui, e_trul, e_trut, e_trus, e_trun, e_int?, e_vIf, e_le, e_lt, e_ge, e_gt, e_add, e_sub, e_neg, e_abs, e_int, e_lenl, e_lent, e_lens, e_listl, e_listt, e_lists, e_min2, e_max2, e_ix, e_ixt, atI_nat, atI_0, atI_1, atI_2, atI_3, atI_4, e_mapv, e_pO, e_pP, e_sPut, e_aNo, e_aFz, e_aS, e_aSl, e_gS, e_argN, e_argF, e_argL, e_vCall, e_cA, e_cFok, e_cFexc, e_fills, e_qNo, e_qA, e_qAnd, e_oTup, e_oLst, e_tT, e_tL, e_sz, e_szl, e_vLst, e_vTup, e_dL, e_dT, e_allN, e_allC, e_mR, e_mL, e_mS, e_vLm, e_lA, e_lO, e_vAnd, e_vOrB, e_chA, e_oCh, e_sFor, e_iS, e_iSeq, e_itl, e_itt, e_its, e_iR, e_iRng0, e_forN, e_aName, e_aTup, e_aCons, e_aNil, e_vLc, e_vLc2, e_lR, e_wpN, e_wpC, e_rstF, e_rstL, e_rstN, e_rsN, e_rsC, Option.map_some, Option.map_none, List.getElem?_cons_zero, List.getElem?_cons_succ, List.set_cons_zero, List.set_cons_succ, List.map_cons, List.map_nil, List.cons_append, List.nil_append, List.append_nil, List.length_cons, List.length_nil, List.replicate, Nat.reduceAdd, Nat.reduceSub, if_true, if_false, ite_true, ite_false, decide_true, decide_false, Bool.false_eq_true, Bool.not_true, Bool.not_false, decide_eq_true_eq, decide_not, Bool.not_eq_true', decide_eq_false_iff_not, e_isaI, e_isaB, e_isaS, e_isaL, e_isaT, e_isaN, e_isa2I, e_isa2B, e_isa2S, e_isa2L, e_isa2T, e_isNnon, e_isNint, e_isNbl, e_isNstr, e_isNlst, e_isNtup, e_isB, e_eqI, e_neI, e_pow18, isaB, String.reduceBEq, Bool.or_false, Bool.false_or, Bool.and_false, Bool.false_and, Bool.true_and, Bool.and_true, Bool.or_true, Bool.true_or, Bool.xor_false, Bool.false_xor, Bool.xor_true, Bool.true_xor, e_mulS, e_divS, e_mod, e_append, e_put, e_put1, e_put2, e_put3, e_put4, e_frN, e_frR, e_frX, e_frE, e_frO, e_outN, e_outC, e_ou, e_notB, e_notL, e_slN, e_slF, e_slL, e_cmN, e_cmC, e_fzF, e_pb, e_pbF, e_putN, e_putC, List.nodup_cons, List.nodup_nil, List.not_mem_nil, List.mem_cons, not_false_eq_true, or_false, and_self, and_true, true_and, List.contains_cons, List.contains_nil, BEq.rfl, Int.reduceLT, Int.reduceLE, Int.reduceAdd, Int.reduceSub, Int.reduceMul, Int.reduceNeg, Int.reduceEq, Nat.reduceLT, Nat.reduceLeDiff, Nat.reduceMul, Int.toNat_natCast, e_mul4 a1 c1, e_mul4 b1 d1, e, nfD]
theorem over_eq : c_over [.fz (fr2 a b), .fz (fr2 c d)] = if c = 0 then .exc { c := "InvalidPaper" } [] else if c < 0 then .ok (.fz (nfD (-a * d) (b * -c))) [] else .ok (.fz (nfD (a * d) (b * c))) [] := by
  obtain ⟨b0, a1, b1⟩ := fzB_iff.mp h1
  obtain ⟨d0, c1, d1⟩ := fzB_iff.mp h2
  unfold c_over c_overB
  by_cases hc : c = 0
  · simp only [fnSem, begin, e_thok, e_thexc, e_stok, e_stexc, e_onx, e_ort, e_obk, e_oct, e_oexc, e_rOv, e_rOn, e_qOv, e_qOn, e_rS, e_rB, e_rV, e_rM, e_qS, e_oV, e_oQ, e_vQ, e_qVar, e_qC, e_vVar, e_vMove, e_o1, e_o2, e_v1, e_v2, e_bind, e_frz, e_frl, e_seq, e_set, e_ret, e_drop, e_pass, e_brk, e_cnt, e_raise, e_raise1, e_if, e_bC, e_bV, e_qT, e_bQ, e_bAnd, e_bOr, e_bNot, e_bYes, e_bl, e_trub, e_trui, e_trul, e_trut, e_trus, e_trun, e_int?, e_vIf, e_le, e_lt, e_ge, e_gt, e_add, e_sub, e_neg, e_abs, e_int, e_lenl, e_lent, e_lens, e_listl, e_listt, e_lists, e_min2, e_max2, e_ix, e_ixt, atI_nat, atI_0, atI_1, atI_2, atI_3, atI_4, e_mapv, e_pO, e_pP, e_sPut, e_aNo, e_aFz, e_aS, e_aSl, e_gS, e_argN, e_argF, e_argL, e_vCall, e_cA, e_cFok, e_cFexc, e_fills, e_qNo, e_qA, e_qAnd, e_oTup, e_oLst, e_tT, e_tL, e_sz, e_szl, e_vLst, e_vTup, e_dL, e_dT, e_allN, e_allC, e_mR, e_mL, e_mS, e_vLm, e_lA, e_lO, e_vAnd, e_vOrB, e_chA, e_oCh, e_sFor, e_iS, e_iSeq, e_itl, e_itt, e_its, e_iR, e_iRng0, e_forN, e_aName, e_aTup, e_aCons, e_aNil, e_vLc, e_vLc2, e_lR, e_wpN, e_wpC, e_rstF, e_rstL, e_rstN, e_rsN, e_rsC, Option.map_some, Option.map_none, List.getElem?_cons_zero, List.getElem?_cons_succ, List.set_cons_zero, List.set_cons_succ, List.map_cons, List.map_nil, List.cons_append, List.nil_append, List.append_nil, List.length_cons, List.length_nil, List.replicate, Nat.reduceAdd, Nat.reduceSub, if_true, if_false, ite_true, ite_false, decide_true, decide_false, Bool.false_eq_true, Bool.not_true, Bool.not_false, decide_eq_true_eq, decide_not, Bool.not_eq_true', decide_eq_false_iff_not, e_isaI, e_isaB, e_isaS, e_isaL, e_isaT, e_isaN, e_isa2I, e_isa2B, e_isa2S, e_isa2L, e_isa2T, e_isNnon, e_isNint, e_isNbl, e_isNstr, e_isNlst, e_isNtup, e_isB, e_eqI, e_neI, e_pow18, isaB, String.reduceBEq, Bool.or_false, Bool.false_or, Bool.and_false, Bool.false_and, Bool.true_and, Bool.and_true, Bool.or_true, Bool.true_or, Bool.xor_false, Bool.false_xor, Bool.xor_true, Bool.true_xor, e_mulS, e_divS, e_mod, e_append, e_put, e_put1, e_put2, e_put3, e_put4, e_frN, e_frR, e_frX, e_frE, e_frO, e_outN, e_outC, e_ou, e_notB, e_notL, e_slN, e_slF, e_slL, e_cmN, e_cmC, e_fzF, e_pb, e_pbF, e_putN, e_putC, List.nodup_cons, List.nodup_nil, List.not_mem_nil, List.mem_cons, not_false_eq_true, or_false, and_self, and_true, true_and, List.contains_cons, List.contains_nil, BEq.rfl, Int.reduceLT, Int.reduceLE, Int.reduceAdd, Int.reduceSub, Int.reduceMul, Int.reduceNeg, Int.reduceEq, Nat.reduceLT, Nat.reduceLeDiff, Nat.reduceMul, Int.toNat_natCast, hc]
  · by_cases hn : c < 0
    · have e := part_eq (n := -a * d) (d := b * -c) (Int.mul_pos b0 (by omega)) (Nat.lt_trans (log_mul b1 (by rw [Int.natAbs_neg]; exact c1)) (by decide))
      simp only [fnSem, begin, e_thok, e_thexc, e_stok, e_stexc, e_onx, e_ort, e_obk, e_oct, e_oexc, e_rOv, e_rOn, e_qOv, e_qOn, e_rS, e_rB, e_rV, e_rM, e_qS, e_oV, e_oQ, e_vQ, e_qVar, e_qC, e_vVar, e_vMove, e_o1, e_o2, e_v1, e_v2, e_bind, e_frz, e_frl, e_seq, e_set, e_ret, e_drop, e_pass, e_brk, e_cnt, e_raise, e_raise1, e_if, e_bC, e_bV, e_qT, e_bQ, e_bAnd, e_bOr, e_bNot, e_bYes, e_bl, e_trub, e_trui, e_trul, e_trut, e_trus, e_trun, e_int?, e_vIf, e_le, e_lt, e_ge, e_gt, e_add, e_sub, e_neg, e_abs, e_int, e_lenl, e_lent, e_lens, e_listl, e_listt, e_lists, e_min2, e_max2, e_ix, e_ixt, atI_nat, atI_0, atI_1, atI_2, atI_3, atI_4, e_mapv, e_pO, e_pP, e_sPut, e_aNo, e_aFz, e_aS, e_aSl, e_gS, e_argN, e_argF, e_argL, e_vCall, e_cA, e_cFok, e_cFexc, e_fills, e_qNo, e_qA, e_qAnd, e_oTup, e_oLst, e_tT, e_tL, e_sz, e_szl, e_vLst, e_vTup, e_dL, e_dT, e_allN, e_allC, e_mR, e_mL, e_mS, e_vLm, e_lA, e_lO, e_vAnd, e_vOrB, e_chA, e_oCh, e_sFor, e_iS, e_iSeq, e_itl, e_itt, e_its, e_iR, e_iRng0, e_forN, e_aName, e_aTup, e_aCons, e_aNil, e_vLc, e_vLc2, e_lR, e_wpN, e_wpC, e_rstF, e_rstL, e_rstN, e_rsN, e_rsC, Option.map_some, Option.map_none, List.getElem?_cons_zero, List.getElem?_cons_succ, List.set_cons_zero, List.set_cons_succ, List.map_cons, List.map_nil, List.cons_append, List.nil_append, List.append_nil, List.length_cons, List.length_nil, List.replicate, Nat.reduceAdd, Nat.reduceSub, if_true, if_false, ite_true, ite_false, decide_true, decide_false, Bool.false_eq_true, Bool.not_true, Bool.not_false, decide_eq_true_eq, decide_not, Bool.not_eq_true', decide_eq_false_iff_not, e_isaI, e_isaB, e_isaS, e_isaL, e_isaT, e_isaN, e_isa2I, e_isa2B, e_isa2S, e_isa2L, e_isa2T, e_isNnon, e_isNint, e_isNbl, e_isNstr, e_isNlst, e_isNtup, e_isB, e_eqI, e_neI, e_pow18, isaB, String.reduceBEq, Bool.or_false, Bool.false_or, Bool.and_false, Bool.false_and, Bool.true_and, Bool.and_true, Bool.or_true, Bool.true_or, Bool.xor_false, Bool.false_xor, Bool.xor_true, Bool.true_xor, e_mulS, e_divS, e_mod, e_append, e_put, e_put1, e_put2, e_put3, e_put4, e_frN, e_frR, e_frX, e_frE, e_frO, e_outN, e_outC, e_ou, e_notB, e_notL, e_slN, e_slF, e_slL, e_cmN, e_cmC, e_fzF, e_pb, e_pbF, e_putN, e_putC, List.nodup_cons, List.nodup_nil, List.not_mem_nil, List.mem_cons, not_false_eq_true, or_false, and_self, and_true, true_and, List.contains_cons, List.contains_nil, BEq.rfl, Int.reduceLT, Int.reduceLE, Int.reduceAdd, Int.reduceSub, Int.reduceMul, Int.reduceNeg, Int.reduceEq, Nat.reduceLT, Nat.reduceLeDiff, Nat.reduceMul, Int.toNat_natCast, hc, hn, e_mul4 (i := -a) (by rw [Int.natAbs_neg]; exact a1) d1, e_mul4 (j := -c) b1 (by rw [Int.natAbs_neg]; exact c1), e, nfD]
    · have e := part_eq (n := a * d) (d := b * c) (Int.mul_pos b0 (by omega)) (Nat.lt_trans (log_mul b1 c1) (by decide))
      simp only [fnSem, begin, e_thok, e_thexc, e_stok, e_stexc, e_onx, e_ort, e_obk, e_oct, e_oexc, e_rOv, e_rOn, e_qOv, e_qOn, e_rS, e_rB, e_rV, e_rM, e_qS, e_oV, e_oQ, e_vQ, e_qVar, e_qC, e_vVar, e_vMove, e_o1, e_o2, e_v1, e_v2, e_bind, e_frz, e_frl, e_seq, e_set, e_ret, e_drop, e_pass, e_brk, e_cnt, e_raise, e_raise1, e_if, e_bC, e_bV, e_qT, e_bQ, e_bAnd, e_bOr, e_bNot, e_bYes, e_bl, e_trub, e_trui, e_trul, e_trut, e_trus, e_trun, e_int?, e_vIf, e_le, e_lt, e_ge, e_gt, e_add, e_sub, e_neg, e_abs, e_int, e_lenl, e_lent, e_lens, e_listl, e_listt, e_lists, e_min2, e_max2, e_ix, e_ixt, atI_nat, atI_0, atI_1, atI_2, atI_3, atI_4, e_mapv, e_pO, e_pP, e_sPut, e_aNo, e_aFz, e_aS, e_aSl, e_gS, e_argN, e_argF, e_argL, e_vCall, e_cA, e_cFok, e_cFexc, e_fills, e_qNo, e_qA, e_qAnd, e_oTup, e_oLst, e_tT, e_tL, e_sz, e_szl, e_vLst, e_vTup, e_dL, e_dT, e_allN, e_allC, e_mR, e_mL, e_mS, e_vLm, e_lA, e_lO, e_vAnd, e_vOrB, e_chA, e_oCh, e_sFor, e_iS, e_iSeq, e_itl, e_itt, e_its, e_iR, e_iRng0, e_forN, e_aName, e_aTup, e_aCons, e_aNil, e_vLc, e_vLc2, e_lR, e_wpN, e_wpC, e_rstF, e_rstL, e_rstN, e_rsN, e_rsC, Option.map_some, Option.map_none, List.getElem?_cons_zero, List.getElem?_cons_succ, List.set_cons_zero, List.set_cons_succ, List.map_cons, List.map_nil, List.cons_append, List.nil_append, List.append_nil, List.length_cons, List.length_nil, List.replicate, Nat.reduceAdd, Nat.reduceSub, if_true, if_false, ite_true, ite_false, decide_true, decide_false, Bool.false_eq_true, Bool.not_true, Bool.not_false, decide_eq_true_eq, decide_not, Bool.not_eq_true', decide_eq_false_iff_not, e_isaI, e_isaB, e_isaS, e_isaL, e_isaT, e_isaN, e_isa2I, e_isa2B, e_isa2S, e_isa2L, e_isa2T, e_isNnon, e_isNint, e_isNbl, e_isNstr, e_isNlst, e_isNtup, e_isB, e_eqI, e_neI, e_pow18, isaB, String.reduceBEq, Bool.or_false, Bool.false_or, Bool.and_false, Bool.false_and, Bool.true_and, Bool.and_true, Bool.or_true, Bool.true_or, Bool.xor_false, Bool.false_xor, Bool.xor_true, Bool.true_xor, e_mulS, e_divS, e_mod, e_append, e_put, e_put1, e_put2, e_put3, e_put4, e_frN, e_frR, e_frX, e_frE, e_frO, e_outN, e_outC, e_ou, e_notB, e_notL, e_slN, e_slF, e_slL, e_cmN, e_cmC, e_fzF, e_pb, e_pbF, e_putN, e_putC, List.nodup_cons, List.nodup_nil, List.not_mem_nil, List.mem_cons, not_false_eq_true, or_false, and_self, and_true, true_and, List.contains_cons, List.contains_nil, BEq.rfl, Int.reduceLT, Int.reduceLE, Int.reduceAdd, Int.reduceSub, Int.reduceMul, Int.reduceNeg, Int.reduceEq, Nat.reduceLT, Nat.reduceLeDiff, Nat.reduceMul, Int.toNat_natCast, hc, hn, e_mul4 a1 d1, e_mul4 b1 c1, e, nfD]
end
theorem fzB_neg {a b : Int} (h : fzB a b = true) : fzB (0 - a) b = true := by
  rw [fzB_iff] at *
  rw [Int.zero_sub, Int.natAbs_neg]
  exact h
theorem lminus_eq {a b c d : Int} (h1 : fzB a b = true) (h2 : fzB c d = true) : c_lminus [.fz (fr2 a b), .fz (fr2 c d)] = .ok (.fz (nfD (a * d + (0 - c) * b) (b * d))) [] := by
  have e := lplus_eq h1 (fzB_neg h2)
  unfold c_lminus c_lminusB
  simp only [fnSem, begin, e_thok, e_thexc, e_stok, e_stexc, e_onx, e_ort, e_obk, e_oct, e_oexc, e_rOv, e_rOn, e_qOv, e_qOn, e_rS, e_rB, e_rV, e_rM, e_qS, e_oV, e_oQ, e_vQ, e_qVar, e_qC, e_vVar, e_vMove, e_o1, e_o2, e_v1, e_v2, e_bind, e_frz, e_frl, e_seq, e_set, e_ret, e_drop, e_pass, e_brk, e_cnt, e_raise, e_raise1, e_if, e_bC, e_bV, e_qT, e_bQ, e_bAnd, e_bOr, e_bNot, e_bYes, e_bl, e_trub, e_trui, e_trul, e_trut, e_trus, e_trun, e_int?, e_vIf, e_le, e_lt, e_ge, e_gt, e_add, e_sub, e_neg, e_abs, e_int, e_lenl, e_lent, e_lens, e_listl, e_listt, e_lists, e_min2, e_max2, e_ix, e_ixt, atI_nat, atI_0, atI_1, atI_2, atI_3, atI_4, e_mapv, e_pO, e_pP, e_sPut, e_aNo, e_aFz, e_aS, e_aSl, e_gS, e_argN, e_argF, e_argL, e_vCall, e_cA, e_cFok, e_cFexc, e_fills, e_qNo, e_qA, e_qAnd, e_oTup, e_oLst, e_tT, e_tL, e_sz, e_szl, e_vLst, e_vTup, e_dL, e_dT, e_allN, e_allC, e_mR, e_mL, e_mS, e_vLm, e_lA, e_lO, e_vAnd, e_vOrB, e_chA, e_oCh, e_sFor, e_iS, e_iSeq, e_itl, e_itt, e_its, e_iR, e_iRng0, e_forN, e_aName, e_aTup, e_aCons, e_aNil, e_vLc, e_vLc2, e_lR, e_wpN, e_wpC, e_rstF, e_rstL, e_rstN, e_rsN, e_rsC, Option.map_some, Option.map_none, List.getElem?_cons_zero, List.getElem?_cons_succ, List.set_cons_zero, List.set_cons_succ, List.map_cons, List.map_nil, List.cons_append, List.nil_append, List.append_nil, List.length_cons, List.length_nil, List.replicate, Nat.reduceAdd, Nat.reduceSub, if_true, if_false, ite_true, ite_false, decide_true, decide_false, Bool.false_eq_true, Bool.not_true, Bool.not_false, decide_eq_true_eq, decide_not, Bool.not_eq_true', decide_eq_false_iff_not, e_isaI, e_isaB, e_isaS, e_isaL, e_isaT, e_isaN, e_isa2I, e_isa2B, e_isa2S, e_isa2L, e_isa2T, e_isNnon, e_isNint, e_isNbl, e_isNstr, e_isNlst, e_isNtup, e_isB, e_eqI, e_neI, e_pow18, isaB, String.reduceBEq, Bool.or_false, Bool.false_or, Bool.and_false, Bool.false_and, Bool.true_and, Bool.and_true, Bool.or_true, Bool.true_or, Bool.xor_false, Bool.false_xor, Bool.xor_true, Bool.true_xor, e_mulS, e_divS, e_mod, e_append, e_put, e_put1, e_put2, e_put3, e_put4, e_frN, e_frR, e_frX, e_frE, e_frO, e_outN, e_outC, e_ou, e_notB, e_notL, e_slN, e_slF, e_slL, e_cmN, e_cmC, e_fzF, e_pb, e_pbF, e_putN, e_putC, List.nodup_cons, List.nodup_nil, List.not_mem_nil, List.mem_cons, not_false_eq_true, or_false, and_self, and_true, true_and, List.contains_cons, List.contains_nil, BEq.rfl, Int.reduceLT, Int.reduceLE, Int.reduceAdd, Int.reduceSub, Int.reduceMul, Int.reduceNeg, Int.reduceEq, Nat.reduceLT, Nat.reduceLeDiff, Nat.reduceMul, Int.toNat_natCast, e]
theorem isp_eq {a b : Int} (h : b.natAbs.log2 < 4000) : c_is_part [.fz (fr2 a b)] = .ok (.fz (.bl (decide (1 ≤ b) && decide (Nat.gcd a.natAbs b.natAbs = 1)))) [] := by
  unfold c_is_part c_is_partB
  by_cases hb : 1 ≤ b
  · have e := common_eq (a := a.natAbs) (c := b.natAbs) (by omega)
    rw [← nat_of (show 0 < b by omega)] at e
    have e2 : (((Nat.gcd a.natAbs b.natAbs : Nat) : Int) = 1) = (Nat.gcd a.natAbs b.natAbs = 1) := propext (by omega)
    simp only [fnSem, begin, e_thok, e_thexc, e_stok, e_stexc, e_onx, e_ort, e_obk, e_oct, e_oexc, e_rOv, e_rOn, e_qOv, e_qOn, e_rS, e_rB, e_rV, e_rM, e_qS, e_oV, e_oQ, e_vQ, e_qVar, e_qC, e_vVar, e_vMove, e_o1, e_o2, e_v1, e_v2, e_bind, e_frz, e_frl, e_seq, e_set, e_ret, e_drop, e_pass, e_brk, e_cnt, e_raise, e_raise1, e_if, e_bC, e_bV, e_qT, e_bQ, e_bAnd, e_bOr, e_bNot, e_bYes, e_bl, e_trub, e_trui, e_trul, e_trut, e_trus, e_trun, e_int?, e_vIf, e_le, e_lt, e_ge, e_gt, e_add, e_sub, e_neg, e_abs, e_int, e_lenl, e_lent, e_lens, e_listl, e_listt, e_lists, e_min2, e_max2, e_ix, e_ixt, atI_nat, atI_0, atI_1, atI_2, atI_3, atI_4, e_mapv, e_pO, e_pP, e_sPut, e_aNo, e_aFz, e_aS, e_aSl, e_gS, e_argN, e_argF, e_argL, e_vCall, e_cA, e_cFok, e_cFexc, e_fills, e_qNo, e_qA, e_qAnd, e_oTup, e_oLst, e_tT, e_tL, e_sz, e_szl, e_vLst, e_vTup, e_dL, e_dT, e_allN, e_allC, e_mR, e_mL, e_mS, e_vLm, e_lA, e_lO, e_vAnd, e_vOrB, e_chA, e_oCh, e_sFor, e_iS, e_iSeq, e_itl, e_itt, e_its, e_iR, e_iRng0, e_forN, e_aName, e_aTup, e_aCons, e_aNil, e_vLc, e_vLc2, e_lR, e_wpN, e_wpC, e_rstF, e_rstL, e_rstN, e_rsN, e_rsC, Option.map_some, Option.map_none, List.getElem?_cons_zero, List.getElem?_cons_succ, List.set_cons_zero, List.set_cons_succ, List.map_cons, List.map_nil, List.cons_append, List.nil_append, List.append_nil, List.length_cons, List.length_nil, List.replicate, Nat.reduceAdd, Nat.reduceSub, if_true, if_false, ite_true, ite_false, decide_true, decide_false, Bool.false_eq_true, Bool.not_true, Bool.not_false, decide_eq_true_eq, decide_not, Bool.not_eq_true', decide_eq_false_iff_not, e_isaI, e_isaB, e_isaS, e_isaL, e_isaT, e_isaN, e_isa2I, e_isa2B, e_isa2S, e_isa2L, e_isa2T, e_isNnon, e_isNint, e_isNbl, e_isNstr, e_isNlst, e_isNtup, e_isB, e_eqI, e_neI, e_pow18, isaB, String.reduceBEq, Bool.or_false, Bool.false_or, Bool.and_false, Bool.false_and, Bool.true_and, Bool.and_true, Bool.or_true, Bool.true_or, Bool.xor_false, Bool.false_xor, Bool.xor_true, Bool.true_xor, e_mulS, e_divS, e_mod, e_append, e_put, e_put1, e_put2, e_put3, e_put4, e_frN, e_frR, e_frX, e_frE, e_frO, e_outN, e_outC, e_ou, e_notB, e_notL, e_slN, e_slF, e_slL, e_cmN, e_cmC, e_fzF, e_pb, e_pbF, e_putN, e_putC, List.nodup_cons, List.nodup_nil, List.not_mem_nil, List.mem_cons, not_false_eq_true, or_false, and_self, and_true, true_and, List.contains_cons, List.contains_nil, BEq.rfl, Int.reduceLT, Int.reduceLE, Int.reduceAdd, Int.reduceSub, Int.reduceMul, Int.reduceNeg, Int.reduceEq, Nat.reduceLT, Nat.reduceLeDiff, Nat.reduceMul, Int.toNat_natCast, e_forC, e_fA, e_fBn, hb, abs_nat, e, e2, Int.cast_ofNat_Int, not_true]
  · simp only [fnSem, begin, e_thok, e_thexc, e_stok, e_stexc, e_onx, e_ort, e_obk, e_oct, e_oexc, e_rOv, e_rOn, e_qOv, e_qOn, e_rS, e_rB, e_rV, e_rM, e_qS, e_oV, e_oQ, e_vQ, e_qVar, e_qC, e_vVar, e_vMove, e_o1, e_o2, e_v1, e_v2, e_bind, e_frz, e_frl, e_seq, e_set, e_ret, e_drop, e_pass, e_brk, e_cnt, e_raise, e_raise1, e_if, e_bC, e_bV, e_qT, e_bQ, e_bAnd, e_bOr, e_bNot, e_bYes, e_bl, e_trub, e_trui, e_trul, e_trut, e_trus, e_trun, e_int?, e_vIf, e_le, e_lt, e_ge, e_gt, e_add, e_sub, e_neg, e_abs, e_int, e_lenl, e_lent, e_lens, e_listl, e_listt, e_lists, e_min2, e_max2, e_ix, e_ixt, atI_nat, atI_0, atI_1, atI_2, atI_3, atI_4, e_mapv, e_pO, e_pP, e_sPut, e_aNo, e_aFz, e_aS, e_aSl, e_gS, e_argN, e_argF, e_argL, e_vCall, e_cA, e_cFok, e_cFexc, e_fills, e_qNo, e_qA, e_qAnd, e_oTup, e_oLst, e_tT, e_tL, e_sz, e_szl, e_vLst, e_vTup, e_dL, e_dT, e_allN, e_allC, e_mR, e_mL, e_mS, e_vLm, e_lA, e_lO, e_vAnd, e_vOrB, e_chA, e_oCh, e_sFor, e_iS, e_iSeq, e_itl, e_itt, e_its, e_iR, e_iRng0, e_forN, e_aName, e_aTup, e_aCons, e_aNil, e_vLc, e_vLc2, e_lR, e_wpN, e_wpC, e_rstF, e_rstL, e_rstN, e_rsN, e_rsC, Option.map_some, Option.map_none, List.getElem?_cons_zero, List.getElem?_cons_succ, List.set_cons_zero, List.set_cons_succ, List.map_cons, List.map_nil, List.cons_append, List.nil_append, List.append_nil, List.length_cons, List.length_nil, List.replicate, Nat.reduceAdd, Nat.reduceSub, if_true, if_false, ite_true, ite_false, decide_true, decide_false, Bool.false_eq_true, Bool.not_true, Bool.not_false, decide_eq_true_eq, decide_not, Bool.not_eq_true', decide_eq_false_iff_not, e_isaI, e_isaB, e_isaS, e_isaL, e_isaT, e_isaN, e_isa2I, e_isa2B, e_isa2S, e_isa2L, e_isa2T, e_isNnon, e_isNint, e_isNbl, e_isNstr, e_isNlst, e_isNtup, e_isB, e_eqI, e_neI, e_pow18, isaB, String.reduceBEq, Bool.or_false, Bool.false_or, Bool.and_false, Bool.false_and, Bool.true_and, Bool.and_true, Bool.or_true, Bool.true_or, Bool.xor_false, Bool.false_xor, Bool.xor_true, Bool.true_xor, e_mulS, e_divS, e_mod, e_append, e_put, e_put1, e_put2, e_put3, e_put4, e_frN, e_frR, e_frX, e_frE, e_frO, e_outN, e_outC, e_ou, e_notB, e_notL, e_slN, e_slF, e_slL, e_cmN, e_cmC, e_fzF, e_pb, e_pbF, e_putN, e_putC, List.nodup_cons, List.nodup_nil, List.not_mem_nil, List.mem_cons, not_false_eq_true, or_false, and_self, and_true, true_and, List.contains_cons, List.contains_nil, BEq.rfl, Int.reduceLT, Int.reduceLE, Int.reduceAdd, Int.reduceSub, Int.reduceMul, Int.reduceNeg, Int.reduceEq, Nat.reduceLT, Nat.reduceLeDiff, Nat.reduceMul, Int.toNat_natCast, e_forC, e_fA, e_fBn, hb, Int.cast_ofNat_Int, not_true]
theorem isn_eq {v lo hi : Int} : c_is_number [.fz (.int v), .fz (.int lo), .fz (.int hi)] = .ok (.fz (.bl (decide (lo ≤ v) && decide (v ≤ hi)))) [] := by
  unfold c_is_number c_is_numberB
  by_cases h : lo ≤ v
  · simp only [fnSem, begin, e_thok, e_thexc, e_stok, e_stexc, e_onx, e_ort, e_obk, e_oct, e_oexc, e_rOv, e_rOn, e_qOv, e_qOn, e_rS, e_rB, e_rV, e_rM, e_qS, e_oV, e_oQ, e_vQ, e_qVar, e_qC, e_vVar, e_vMove, e_o1, e_o2, e_v1, e_v2, e_bind, e_frz, e_frl, e_seq, e_set, e_ret, e_drop, e_pass, e_brk, e_cnt, e_raise, e_raise1, e_if, e_bC, e_bV, e_qT, e_bQ, e_bAnd, e_bOr, e_bNot, e_bYes, e_bl, e_trub, e_trui, e_trul, e_trut, e_trus, e_trun, e_int?, e_vIf, e_le, e_lt, e_ge, e_gt, e_add, e_sub, e_neg, e_abs, e_int, e_lenl, e_lent, e_lens, e_listl, e_listt, e_lists, e_min2, e_max2, e_ix, e_ixt, atI_nat, atI_0, atI_1, atI_2, atI_3, atI_4, e_mapv, e_pO, e_pP, e_sPut, e_aNo, e_aFz, e_aS, e_aSl, e_gS, e_argN, e_argF, e_argL, e_vCall, e_cA, e_cFok, e_cFexc, e_fills, e_qNo, e_qA, e_qAnd, e_oTup, e_oLst, e_tT, e_tL, e_sz, e_szl, e_vLst, e_vTup, e_dL, e_dT, e_allN, e_allC, e_mR, e_mL, e_mS, e_vLm, e_lA, e_lO, e_vAnd, e_vOrB, e_chA, e_oCh, e_sFor, e_iS, e_iSeq, e_itl, e_itt, e_its, e_iR, e_iRng0, e_forN, e_aName, e_aTup, e_aCons, e_aNil, e_vLc, e_vLc2, e_lR, e_wpN, e_wpC, e_rstF, e_rstL, e_rstN, e_rsN, e_rsC, Option.map_some, Option.map_none, List.getElem?_cons_zero, List.getElem?_cons_succ, List.set_cons_zero, List.set_cons_succ, List.map_cons, List.map_nil, List.cons_append, List.nil_append, List.append_nil, List.length_cons, List.length_nil, List.replicate, Nat.reduceAdd, Nat.reduceSub, if_true, if_false, ite_true, ite_false, decide_true, decide_false, Bool.false_eq_true, Bool.not_true, Bool.not_false, decide_eq_true_eq, decide_not, Bool.not_eq_true', decide_eq_false_iff_not, e_isaI, e_isaB, e_isaS, e_isaL, e_isaT, e_isaN, e_isa2I, e_isa2B, e_isa2S, e_isa2L, e_isa2T, e_isNnon, e_isNint, e_isNbl, e_isNstr, e_isNlst, e_isNtup, e_isB, e_eqI, e_neI, e_pow18, isaB, String.reduceBEq, Bool.or_false, Bool.false_or, Bool.and_false, Bool.false_and, Bool.true_and, Bool.and_true, Bool.or_true, Bool.true_or, Bool.xor_false, Bool.false_xor, Bool.xor_true, Bool.true_xor, e_mulS, e_divS, e_mod, e_append, e_put, e_put1, e_put2, e_put3, e_put4, e_frN, e_frR, e_frX, e_frE, e_frO, e_outN, e_outC, e_ou, e_notB, e_notL, e_slN, e_slF, e_slL, e_cmN, e_cmC, e_fzF, e_pb, e_pbF, e_putN, e_putC, List.nodup_cons, List.nodup_nil, List.not_mem_nil, List.mem_cons, not_false_eq_true, or_false, and_self, and_true, true_and, List.contains_cons, List.contains_nil, BEq.rfl, Int.reduceLT, Int.reduceLE, Int.reduceAdd, Int.reduceSub, Int.reduceMul, Int.reduceNeg, Int.reduceEq, Nat.reduceLT, Nat.reduceLeDiff, Nat.reduceMul, Int.toNat_natCast, h]
  · simp only [fnSem, begin, e_thok, e_thexc, e_stok, e_stexc, e_onx, e_ort, e_obk, e_oct, e_oexc, e_rOv, e_rOn, e_qOv, e_qOn, e_rS, e_rB, e_rV, e_rM, e_qS, e_oV, e_oQ, e_vQ, e_qVar, e_qC, e_vVar, e_vMove, e_o1, e_o2, e_v1, e_v2, e_bind, e_frz, e_frl, e_seq, e_set, e_ret, e_drop, e_pass, e_brk, e_cnt, e_raise, e_raise1, e_if, e_bC, e_bV, e_qT, e_bQ, e_bAnd, e_bOr, e_bNot, e_bYes, e_bl, e_trub, e_trui, e_trul, e_trut, e_trus, e_trun, e_int?, e_vIf, e_le, e_lt, e_ge, e_gt, e_add, e_sub, e_neg, e_abs, e_int, e_lenl, e_lent, e_lens, e_listl, e_listt, e_lists, e_min2, e_max2, e_ix, e_ixt, atI_nat, atI_0, atI_1, atI_2, atI_3, atI_4, e_mapv, e_pO, e_pP, e_sPut, e_aNo, e_aFz, e_aS, e_aSl, e_gS, e_argN, e_argF, e_argL, e_vCall, e_cA, e_cFok, e_cFexc, e_fills, e_qNo, e_qA, e_qAnd, e_oTup, e_oLst, e_tT, e_tL, e_sz, e_szl, e_vLst, e_vTup, e_dL, e_dT, e_allN, e_allC, e_mR, e_mL, e_mS, e_vLm, e_lA, e_lO, e_vAnd, e_vOrB, e_chA, e_oCh, e_sFor, e_iS, e_iSeq, e_itl, e_itt, e_its, e_iR, e_iRng0, e_forN, e_aName, e_aTup, e_aCons, e_aNil, e_vLc, e_vLc2, e_lR, e_wpN, e_wpC, e_rstF, e_rstL, e_rstN, e_rsN, e_rsC, Option.map_some, Option.map_none, List.getElem?_cons_zero, List.getElem?_cons_succ, List.set_cons_zero, List.set_cons_succ, List.map_cons, List.map_nil, List.cons_append, List.nil_append, List.append_nil, List.length_cons, List.length_nil, List.replicate, Nat.reduceAdd, Nat.reduceSub, if_true, if_false, ite_true, ite_false, decide_true, decide_false, Bool.false_eq_true, Bool.not_true, Bool.not_false, decide_eq_true_eq, decide_not, Bool.not_eq_true', decide_eq_false_iff_not, e_isaI, e_isaB, e_isaS, e_isaL, e_isaT, e_isaN, e_isa2I, e_isa2B, e_isa2S, e_isa2L, e_isa2T, e_isNnon, e_isNint, e_isNbl, e_isNstr, e_isNlst, e_isNtup, e_isB, e_eqI, e_neI, e_pow18, isaB, String.reduceBEq, Bool.or_false, Bool.false_or, Bool.and_false, Bool.false_and, Bool.true_and, Bool.and_true, Bool.or_true, Bool.true_or, Bool.xor_false, Bool.false_xor, Bool.xor_true, Bool.true_xor, e_mulS, e_divS, e_mod, e_append, e_put, e_put1, e_put2, e_put3, e_put4, e_frN, e_frR, e_frX, e_frE, e_frO, e_outN, e_outC, e_ou, e_notB, e_notL, e_slN, e_slF, e_slL, e_cmN, e_cmC, e_fzF, e_pb, e_pbF, e_putN, e_putC, List.nodup_cons, List.nodup_nil, List.not_mem_nil, List.mem_cons, not_false_eq_true, or_false, and_self, and_true, true_and, List.contains_cons, List.contains_nil, BEq.rfl, Int.reduceLT, Int.reduceLE, Int.reduceAdd, Int.reduceSub, Int.reduceMul, Int.reduceNeg, Int.reduceEq, Nat.reduceLT, Nat.reduceLeDiff, Nat.reduceMul, Int.toNat_natCast, h]
theorem isn_bl {v : Bool} {lo hi : D} : c_is_number [.fz (.bl v), .fz lo, .fz hi] = .ok (.fz (.bl false)) [] := by
  unfold c_is_number c_is_numberB
  simp only [fnSem, begin, e_thok, e_thexc, e_stok, e_stexc, e_onx, e_ort, e_obk, e_oct, e_oexc, e_rOv, e_rOn, e_qOv, e_qOn, e_rS, e_rB, e_rV, e_rM, e_qS, e_oV, e_oQ, e_vQ, e_qVar, e_qC, e_vVar, e_vMove, e_o1, e_o2, e_v1, e_v2, e_bind, e_frz, e_frl, e_seq, e_set, e_ret, e_drop, e_pass, e_brk, e_cnt, e_raise, e_raise1, e_if, e_bC, e_bV, e_qT, e_bQ, e_bAnd, e_bOr, e_bNot, e_bYes, e_bl, e_trub, e_trui, e_trul, e_trut, e_trus, e_trun, e_int?, e_vIf, e_le, e_lt, e_ge, e_gt, e_add, e_sub, e_neg, e_abs, e_int, e_lenl, e_lent, e_lens, e_listl, e_listt, e_lists, e_min2, e_max2, e_ix, e_ixt, atI_nat, atI_0, atI_1, atI_2, atI_3, atI_4, e_mapv, e_pO, e_pP, e_sPut, e_aNo, e_aFz, e_aS, e_aSl, e_gS, e_argN, e_argF, e_argL, e_vCall, e_cA, e_cFok, e_cFexc, e_fills, e_qNo, e_qA, e_qAnd, e_oTup, e_oLst, e_tT, e_tL, e_sz, e_szl, e_vLst, e_vTup, e_dL, e_dT, e_allN, e_allC, e_mR, e_mL, e_mS, e_vLm, e_lA, e_lO, e_vAnd, e_vOrB, e_chA, e_oCh, e_sFor, e_iS, e_iSeq, e_itl, e_itt, e_its, e_iR, e_iRng0, e_forN, e_aName, e_aTup, e_aCons, e_aNil, e_vLc, e_vLc2, e_lR, e_wpN, e_wpC, e_rstF, e_rstL, e_rstN, e_rsN, e_rsC, Option.map_some, Option.map_none, List.getElem?_cons_zero, List.getElem?_cons_succ, List.set_cons_zero, List.set_cons_succ, List.map_cons, List.map_nil, List.cons_append, List.nil_append, List.append_nil, List.length_cons, List.length_nil, List.replicate, Nat.reduceAdd, Nat.reduceSub, if_true, if_false, ite_true, ite_false, decide_true, decide_false, Bool.false_eq_true, Bool.not_true, Bool.not_false, decide_eq_true_eq, decide_not, Bool.not_eq_true', decide_eq_false_iff_not, e_isaI, e_isaB, e_isaS, e_isaL, e_isaT, e_isaN, e_isa2I, e_isa2B, e_isa2S, e_isa2L, e_isa2T, e_isNnon, e_isNint, e_isNbl, e_isNstr, e_isNlst, e_isNtup, e_isB, e_eqI, e_neI, e_pow18, isaB, String.reduceBEq, Bool.or_false, Bool.false_or, Bool.and_false, Bool.false_and, Bool.true_and, Bool.and_true, Bool.or_true, Bool.true_or, Bool.xor_false, Bool.false_xor, Bool.xor_true, Bool.true_xor, e_mulS, e_divS, e_mod, e_append, e_put, e_put1, e_put2, e_put3, e_put4, e_frN, e_frR, e_frX, e_frE, e_frO, e_outN, e_outC, e_ou, e_notB, e_notL, e_slN, e_slF, e_slL, e_cmN, e_cmC, e_fzF, e_pb, e_pbF, e_putN, e_putC, List.nodup_cons, List.nodup_nil, List.not_mem_nil, List.mem_cons, not_false_eq_true, or_false, and_self, and_true, true_and, List.contains_cons, List.contains_nil, BEq.rfl, Int.reduceLT, Int.reduceLE, Int.reduceAdd, Int.reduceSub, Int.reduceMul, Int.reduceNeg, Int.reduceEq, Nat.reduceLT, Nat.reduceLeDiff, Nat.reduceMul, Int.toNat_natCast]
theorem ckn_eq {v lo hi : Int} (h : lo ≤ v ∧ v ≤ hi) : c_checked_number [.fz (.int v), .fz (.int lo), .fz (.int hi)] = .ok (.fz (.int v)) [] := by
  unfold c_checked_number c_checked_numberB
  simp only [fnSem, begin, e_thok, e_thexc, e_stok, e_stexc, e_onx, e_ort, e_obk, e_oct, e_oexc, e_rOv, e_rOn, e_qOv, e_qOn, e_rS, e_rB, e_rV, e_rM, e_qS, e_oV, e_oQ, e_vQ, e_qVar, e_qC, e_vVar, e_vMove, e_o1, e_o2, e_v1, e_v2, e_bind, e_frz, e_frl, e_seq, e_set, e_ret, e_drop, e_pass, e_brk, e_cnt, e_raise, e_raise1, e_if, e_bC, e_bV, e_qT, e_bQ, e_bAnd, e_bOr, e_bNot, e_bYes, e_bl, e_trub, e_trui, e_trul, e_trut, e_trus, e_trun, e_int?, e_vIf, e_le, e_lt, e_ge, e_gt, e_add, e_sub, e_neg, e_abs, e_int, e_lenl, e_lent, e_lens, e_listl, e_listt, e_lists, e_min2, e_max2, e_ix, e_ixt, atI_nat, atI_0, atI_1, atI_2, atI_3, atI_4, e_mapv, e_pO, e_pP, e_sPut, e_aNo, e_aFz, e_aS, e_aSl, e_gS, e_argN, e_argF, e_argL, e_vCall, e_cA, e_cFok, e_cFexc, e_fills, e_qNo, e_qA, e_qAnd, e_oTup, e_oLst, e_tT, e_tL, e_sz, e_szl, e_vLst, e_vTup, e_dL, e_dT, e_allN, e_allC, e_mR, e_mL, e_mS, e_vLm, e_lA, e_lO, e_vAnd, e_vOrB, e_chA, e_oCh, e_sFor, e_iS, e_iSeq, e_itl, e_itt, e_its, e_iR, e_iRng0, e_forN, e_aName, e_aTup, e_aCons, e_aNil, e_vLc, e_vLc2, e_lR, e_wpN, e_wpC, e_rstF, e_rstL, e_rstN, e_rsN, e_rsC, Option.map_some, Option.map_none, List.getElem?_cons_zero, List.getElem?_cons_succ, List.set_cons_zero, List.set_cons_succ, List.map_cons, List.map_nil, List.cons_append, List.nil_append, List.append_nil, List.length_cons, List.length_nil, List.replicate, Nat.reduceAdd, Nat.reduceSub, if_true, if_false, ite_true, ite_false, decide_true, decide_false, Bool.false_eq_true, Bool.not_true, Bool.not_false, decide_eq_true_eq, decide_not, Bool.not_eq_true', decide_eq_false_iff_not, e_isaI, e_isaB, e_isaS, e_isaL, e_isaT, e_isaN, e_isa2I, e_isa2B, e_isa2S, e_isa2L, e_isa2T, e_isNnon, e_isNint, e_isNbl, e_isNstr, e_isNlst, e_isNtup, e_isB, e_eqI, e_neI, e_pow18, isaB, String.reduceBEq, Bool.or_false, Bool.false_or, Bool.and_false, Bool.false_and, Bool.true_and, Bool.and_true, Bool.or_true, Bool.true_or, Bool.xor_false, Bool.false_xor, Bool.xor_true, Bool.true_xor, e_mulS, e_divS, e_mod, e_append, e_put, e_put1, e_put2, e_put3, e_put4, e_frN, e_frR, e_frX, e_frE, e_frO, e_outN, e_outC, e_ou, e_notB, e_notL, e_slN, e_slF, e_slL, e_cmN, e_cmC, e_fzF, e_pb, e_pbF, e_putN, e_putC, List.nodup_cons, List.nodup_nil, List.not_mem_nil, List.mem_cons, not_false_eq_true, or_false, and_self, and_true, true_and, List.contains_cons, List.contains_nil, BEq.rfl, Int.reduceLT, Int.reduceLE, Int.reduceAdd, Int.reduceSub, Int.reduceMul, Int.reduceNeg, Int.reduceEq, Nat.reduceLT, Nat.reduceLeDiff, Nat.reduceMul, Int.toNat_natCast, isn_eq, h.1, h.2]
end VS
namespace VS
open PySem PySem.Spec PyProof.Rows L2
/-! ### the same, quick to be reckoned -/
noncomputable section
def f2 (c : List S → FR) (r : Int → Int → Int → Int → FR) : List S → FR
  | [.fz (.tup [.int a, .int b]), .fz (.tup [.int i, .int j])] => if fzB a b && fzB i j then r a b i j else c [.fz (.tup [.int a, .int b]), .fz (.tup [.int i, .int j])]
  | ss => c ss
theorem f2_eq {c : List S → FR} {r : Int → Int → Int → Int → FR} (h : ∀ a b i j, fzB a b = true → fzB i j = true → c [.fz (fr2 a b), .fz (fr2 i j)] = r a b i j) : c = f2 c r := by
  funext ss
  unfold f2
  split
  · rename_i a b i j
    by_cases hc : (fzB a b && fzB i j) = true
    · rw [if_pos hc]
      rw [Bool.and_eq_true] at hc
      exact h a b i j hc.1 hc.2
    · rw [if_neg hc]
  · rfl
def f_plus := f2 c_plus fun a b c d => .ok (.fz (nfD (a * d + c * b) (b * d))) []
theorem f_plus_eq : c_plus = f_plus := f2_eq fun a b c d h1 h2 => plus_eq h1 h2
def f_minus := f2 c_minus fun a b c d => .ok (.fz (nfD (a * d - c * b) (b * d))) []
theorem f_minus_eq : c_minus = f_minus := f2_eq fun a b c d h1 h2 => minus_eq h1 h2
def f_times := f2 c_times fun a b c d => .ok (.fz (nfD (a * c) (b * d))) []
theorem f_times_eq : c_times = f_times := f2_eq fun a b c d h1 h2 => times_eq h1 h2
def f_is_less := f2 c_is_less fun a b c d => .ok (.fz (.bl (decide (a * d < c * b)))) []
theorem f_is_less_eq : c_is_less = f_is_less := f2_eq fun a b c d h1 h2 => less_eq h1 h2
def f_over := f2 c_over fun a b c d => if c = 0 then .exc { c := "InvalidPaper" } [] else if c < 0 then .ok (.fz (nfD (-a * d) (b * -c))) [] else .ok (.fz (nfD (a * d) (b * c))) []
theorem f_over_eq : c_over = f_over := f2_eq fun a b c d h1 h2 => over_eq h1 h2
def f_lplus := f2 c_lplus fun a b c d => .ok (.fz (nfD (a * d + c * b) (b * d))) []
theorem f_lplus_eq : c_lplus = f_lplus := f2_eq fun a b c d h1 h2 => lplus_eq h1 h2
def f_lminus := f2 c_lminus fun a b c d => .ok (.fz (nfD (a * d + (0 - c) * b) (b * d))) []
theorem f_lminus_eq : c_lminus = f_lminus := f2_eq fun a b c d h1 h2 => lminus_eq h1 h2
def f_ltimes := f2 c_ltimes fun a b c d => .ok (.fz (nfD (a * c) (b * d))) []
theorem f_ltimes_eq : c_ltimes = f_ltimes := f2_eq fun a b c d h1 h2 => ltimes_eq h1 h2
def f_lless := f2 c_lless fun a b c d => .ok (.fz (.bl (decide (a * d < c * b)))) []
theorem f_lless_eq : c_lless = f_lless := f2_eq fun a b c d h1 h2 => lless_eq h1 h2
def f_part : List S → FR
  | [.fz (.int n), .fz (.int d)] => if decide (0 < d) && decide (d.natAbs.log2 < 9000) then .ok (.fz (nfD n d)) [] else c_part [.fz (.int n), .fz (.int d)]
  | ss => c_part ss
theorem f_part_eq : c_part = f_part := by
  funext ss
  unfold f_part
  split
  · rename_i n d
    by_cases hc : (decide (0 < d) && decide (d.natAbs.log2 < 9000)) = true
    · rw [if_pos hc]
      rw [Bool.and_eq_true, decide_eq_true_eq, decide_eq_true_eq] at hc
      exact part_eq hc.1 hc.2
    · rw [if_neg hc]
  · rfl
def f_lpart : List S → FR
  | [.fz (.int n), .fz (.int d)] => if decide (0 < d) && decide (d.natAbs.log2 < 9000) then .ok (.fz (nfD n d)) [] else c_lpart [.fz (.int n), .fz (.int d)]
  | ss => c_lpart ss
theorem f_lpart_eq : c_lpart = f_lpart := by
  funext ss
  unfold f_lpart
  split
  · rename_i n d
    by_cases hc : (decide (0 < d) && decide (d.natAbs.log2 < 9000)) = true
    · rw [if_pos hc]
      rw [Bool.and_eq_true, decide_eq_true_eq, decide_eq_true_eq] at hc
      exact lpart_eq hc.1 hc.2
    · rw [if_neg hc]
  · rfl
def f_is_part : List S → FR
  | [.fz (.tup [.int a, .int b])] => if decide (b.natAbs.log2 < 4000) then .ok (.fz (.bl (decide (1 ≤ b) && decide (Nat.gcd a.natAbs b.natAbs = 1)))) [] else c_is_part [.fz (.tup [.int a, .int b])]
  | ss => c_is_part ss
theorem f_is_part_eq : c_is_part = f_is_part := by
  funext ss
  unfold f_is_part
  split
  · rename_i a b
    by_cases hc : decide (b.natAbs.log2 < 4000) = true
    · rw [if_pos hc]
      rw [decide_eq_true_eq] at hc
      exact isp_eq hc
    · rw [if_neg hc]
  · rfl
def f_is_number : List S → FR
  | [.fz (.int v), .fz (.int lo), .fz (.int hi)] => .ok (.fz (.bl (decide (lo ≤ v) && decide (v ≤ hi)))) []
  | ss => c_is_number ss
theorem f_is_number_eq : c_is_number = f_is_number := by
  funext ss
  unfold f_is_number
  split
  · exact isn_eq
  · rfl
def f_checked_number : List S → FR
  | [.fz (.int v), .fz (.int lo), .fz (.int hi)] => if decide (lo ≤ v) && decide (v ≤ hi) then .ok (.fz (.int v)) [] else c_checked_number [.fz (.int v), .fz (.int lo), .fz (.int hi)]
  | ss => c_checked_number ss
theorem f_checked_number_eq : c_checked_number = f_checked_number := by
  funext ss
  unfold f_checked_number
  split
  · rename_i v lo hi
    by_cases hc : (decide (lo ≤ v) && decide (v ≤ hi)) = true
    · rw [if_pos hc]
      rw [Bool.and_eq_true, decide_eq_true_eq, decide_eq_true_eq] at hc
      exact ckn_eq hc
    · rw [if_neg hc]
  · rfl
end
end VS
namespace VS
open PySem PySem.Spec PyProof.Rows L2
/-! ### the same meanings, each value worked out as soon as it is made (for the kernel) -/
def foN {α : Type} (m : Nat) (k : Nat → α) : α := match m with
  | 0 => k 0
  | .succ n => k (.succ n)
theorem foN_eq {α : Type} {m : Nat} {k : Nat → α} : foN m k = k m := by cases m <;> rfl
def foI {α : Type} (i : Int) (k : Int → α) : α := match i with
  | .ofNat m => foN m fun m => k (.ofNat m)
  | .negSucc m => foN m fun m => k (.negSucc m)
theorem foI_eq {α : Type} {i : Int} {k : Int → α} : foI i k = k i := by cases i <;> simp only [foI, foN_eq]
def foB {α : Type} (b : Bool) (k : Bool → α) : α := match b with
  | true => k true
  | false => k false
theorem foB_eq {α : Type} {b : Bool} {k : Bool → α} : foB b k = k b := by cases b <;> rfl
mutual
def foD {α : Type} (d : D) (k : D → α) : α := match d with
  | .non => k .non
  | .bl b => foB b fun b => k (.bl b)
  | .int i => foI i fun i => k (.int i)
  | .str x => k (.str x)
  | .tup ds => foDs ds fun ds => k (.tup ds)
  | .lst ds => foDs ds fun ds => k (.lst ds)
  | .dct t ks ds => foDs ds fun ds => k (.dct t ks ds)
  | .obj c ns ds => foDs ds fun ds => k (.obj c ns ds)
  | .scr ns => k (.scr ns)
def foDs {α : Type} (ds : List D) (k : List D → α) : α := match ds with
  | [] => k []
  | d :: r => foD d fun d => foDs r fun r => k (d :: r)
end
mutual
theorem foD_eq {α : Type} : ∀ {d : D} {k : D → α}, foD d k = k d
  | .non, k => by simp only [foD]
  | .bl b, k => by simp only [foD, foB_eq]
  | .int i, k => by simp only [foD, foI_eq]
  | .str x, k => by simp only [foD]
  | .tup ds, k => by simp only [foD]; exact foDs_eq
  | .lst ds, k => by simp only [foD]; exact foDs_eq
  | .dct t ks ds, k => by simp only [foD]; exact foDs_eq
  | .obj c ns ds, k => by simp only [foD]; exact foDs_eq
  | .scr ns, k => by simp only [foD]
theorem foDs_eq {α : Type} : ∀ {ds : List D} {k : List D → α}, foDs ds k = k ds
  | [], k => by simp only [foDs]
  | d :: r, k => by simp only [foDs]; rw [foD_eq, foDs_eq]
end
def foS {α : Type} (s : S) (k : S → α) : α := match s with
  | .fz d => foD d fun d => k (.fz d)
  | .lst ds => foDs ds fun ds => k (.lst ds)
  | .dct t ks ds => foDs ds fun ds => k (.dct t ks ds)
  | s => k s
theorem foS_eq {α : Type} {s : S} {k : S → α} : foS s k = k s := by
  cases s <;> simp only [foS, foD_eq, foDs_eq]
/-- the slots' spine -/
def foE {α : Type} (ρ : Env) (k : Env → α) : α := match ρ with
  | [] => k []
  | none :: r => foE r fun r => k (none :: r)
  | some s :: r => foE r fun r => k (some s :: r)
theorem foE_eq {α : Type} : ∀ {ρ : Env} {k : Env → α}, foE ρ k = k ρ
  | [], k => rfl
  | none :: r, k => by rw [foE, foE_eq]
  | some s :: r, k => by rw [foE, foE_eq]
def vVarF (i : Nat) : TV := fun ρ => match ρ[i]? with
  | some (some (.fz d)) => .ok (.fz d, ρ)
  | some (some s) => foE (ρ.set i (some (.fz s.fr))) fun ρ => .ok (.fz s.fr, ρ)
  | _ => .bad
theorem vVar_F : @vVar = @vVarF := by
  funext i ρ
  unfold vVar vVarF
  cases h : ρ[i]? with
  | none => rfl
  | some o => cases o with
    | none => rfl
    | some s => cases s with
      | fz d =>
        have : ρ.set i (some (.fz d)) = ρ := by
          obtain ⟨hi, e⟩ := List.getElem?_eq_some_iff.mp h
          rw [← e]; exact List.set_getElem_self hi
        show R.ok (S.fz d, ρ.set i (some (.fz d))) = _
        rw [this]
      | lst ds => simp only [foE_eq]
      | dct t ks ds => simp only [foE_eq]
      | obj c ns ss => simp only [foE_eq]
def sSetF (i : Nat) (t : TV) : TSt := fun ρ => (t ρ).st fun s ρ' => foS s fun s => foE (ρ'.set i (some s)) fun ρ => .nx ρ
theorem sSet_F : @sSet = @sSetF := by
  funext i t ρ
  unfold sSet sSetF
  simp only [foS_eq, foE_eq]
def sRetF (t : TV) : TSt := fun ρ => (t ρ).st fun s ρ' => foS s fun s => .rt s ρ'
theorem sRet_F : @sRet = @sRetF := by
  funext t ρ
  unfold sRet sRetF
  simp only [foS_eq]
def aFzF (t : TV) (u : TAv) : TAv := fun ρ => (t ρ).th fun s ρ1 => foD s.fr fun d => (u ρ1).th fun as ρ2 => .ok (.fz d :: as, ρ2)
theorem aFz_F : @aFz = @aFzF := by
  funext t u ρ
  unfold aFz aFzF
  simp only [foD_eq]
def aNameF (i : Nat) : TAs := fun d ρ => foD d fun d => foE (ρ.set i (some (.fz d))) fun ρ => some ρ
theorem aName_F : @aName = @aNameF := by
  funext i d ρ
  unfold aName aNameF
  simp only [foD_eq, foE_eq]
def vLmF (f : LM) (i : Nat) (u : TAv) : TV := fun ρ => match lstAt ρ i with
  | none => .bad
  | some _ => (u ρ).th fun as ρ1 => match allFz as, lstAt ρ1 i with
    | some es, some ds => (match f ds es with
      | some (d, ds') => foD d fun d => foDs ds' fun ds' => foE (ρ1.set i (some (.lst ds'))) fun ρ => .ok (.fz d, ρ)
      | none => .bad)
    | _, _ => .bad
theorem vLm_F : @vLm = @vLmF := by
  funext f i u ρ
  unfold vLm vLmF
  simp only [foD_eq, foDs_eq, foE_eq] <;> rfl
def sPutF (i : Nat) (t : TV) (tk : TQ) : TSt := fun ρ => (t ρ).st fun s ρ1 => match ρ1[i]?, tk ρ1 with
  | some (some o), some k => (match o.put k.fr s.fr with
    | some o' => foS o' fun o' => foE (ρ1.set i (some o')) fun ρ => .nx ρ
    | none => .bad)
  | _, _ => .bad
theorem sPut_F : @sPut = @sPutF := by
  funext i t tk ρ
  unfold sPut sPutF
  simp only [foS_eq, foE_eq] <;> rfl
def lcF (own : List Nat) (a : TAs) (b : TB) (t : TV) : List D → List D → Env → R (List D × Env)
  | [], acc, ρ => .ok (acc, ρ)
  | d :: ds, acc, ρ => foE (wipeE ρ own) fun ρ => match a d ρ with
    | none => .bad
    | some ρ1 => (b ρ1).th fun k ρ2 => if k then (t ρ2).th fun s ρ3 => foD s.fr fun e => (if acc.length < sizeLine then foDs (acc ++ [e]) fun acc => lcF own a b t ds acc ρ3 else .bad) else lcF own a b t ds acc ρ2
theorem lcL_F {own : List Nat} {a : TAs} {b : TB} {t : TV} : ∀ {ds acc : List D} {ρ : Env}, lcL own a b t ds acc ρ = lcF own a b t ds acc ρ
  | [], acc, ρ => by rw [lcL, lcF]
  | d :: ds, acc, ρ => by
    rw [lcL, lcF, foE_eq]
    cases a d (wipeE ρ own) with
    | none => rfl
    | some ρ1 => simp only [foD_eq, foDs_eq, lcL_F]
def vLcF (own : List Nat) (it : TIt) (a : TAs) (b : TB) (t : TV) : TV := fun ρ => (it ρ).th fun ds ρ1 => match lcF own a b t ds [] ρ1 with
  | .ok (acc, ρ2) => foE (restE ρ1 own ρ2) fun ρ => .ok (.lst acc, ρ)
  | _ => .bad
theorem vLc_F : @vLc = @vLcF := by
  funext own it a b t ρ
  unfold vLc vLcF
  simp only [lcL_F, foE_eq] <;> rfl
def fnF (n np : Nat) (mp : List Nat) (t : TSt) (ss : List S) : FR := if ss.length = np then foE (begin n ss) fun ρ => (t ρ).fr mp else .bad
theorem fnSem_F : @fnSem = @fnF := by
  funext n np mp t ss
  unfold fnSem fnF
  simp only [foE_eq]
def nfF (n d : Int) (k : D → FR) : FR := foN (Nat.gcd n.natAbs d.natAbs) fun g => foI (n / (g : Int)) fun n => foI (d / (g : Int)) fun d => k (fr2 n d)
theorem nfF_eq {n d : Int} {k : D → FR} : nfF n d k = k (nfD n d) := by
  unfold nfF nfD
  simp only [foN_eq, foI_eq]
def f2F (c : List S → FR) (r : Int → Int → Int → Int → FR) : List S → FR
  | [.fz (.tup [.int a, .int b]), .fz (.tup [.int i, .int j])] => foI a fun a => foI b fun b => foI i fun i => foI j fun j => if fzB a b && fzB i j then r a b i j else c [.fz (.tup [.int a, .int b]), .fz (.tup [.int i, .int j])]
  | ss => c ss
theorem f2_F : @f2 = @f2F := by
  funext c r ss
  unfold f2 f2F
  split <;> simp only [foI_eq]
noncomputable section
def g_plus := f2F c_plus fun a b c d => nfF (a * d + c * b) (b * d) fun d => .ok (.fz d) []
theorem g_plus_eq : c_plus = g_plus := by rw [f_plus_eq]; unfold f_plus g_plus; simp only [nfF_eq, f2_F]
def g_minus := f2F c_minus fun a b c d => nfF (a * d - c * b) (b * d) fun d => .ok (.fz d) []
theorem g_minus_eq : c_minus = g_minus := by rw [f_minus_eq]; unfold f_minus g_minus; simp only [nfF_eq, f2_F]
def g_times := f2F c_times fun a b c d => nfF (a * c) (b * d) fun d => .ok (.fz d) []
theorem g_times_eq : c_times = g_times := by rw [f_times_eq]; unfold f_times g_times; simp only [nfF_eq, f2_F]
def g_is_less := f2F c_is_less fun a b c d => foB (decide (a * d < c * b)) fun r => .ok (.fz (.bl r)) []
theorem g_is_less_eq : c_is_less = g_is_less := by rw [f_is_less_eq]; unfold f_is_less g_is_less; simp only [foB_eq, f2_F]
def g_over := f2F c_over fun a b c d => if c = 0 then .exc { c := "InvalidPaper" } [] else if c < 0 then nfF (-a * d) (b * -c) fun d => .ok (.fz d) [] else nfF (a * d) (b * c) fun d => .ok (.fz d) []
theorem g_over_eq : c_over = g_over := by rw [f_over_eq]; unfold f_over g_over; simp only [nfF_eq, f2_F]
def g_lplus := f2F c_lplus fun a b c d => nfF (a * d + c * b) (b * d) fun d => .ok (.fz d) []
theorem g_lplus_eq : c_lplus = g_lplus := by rw [f_lplus_eq]; unfold f_lplus g_lplus; simp only [nfF_eq, f2_F]
def g_lminus := f2F c_lminus fun a b c d => nfF (a * d + (0 - c) * b) (b * d) fun d => .ok (.fz d) []
theorem g_lminus_eq : c_lminus = g_lminus := by rw [f_lminus_eq]; unfold f_lminus g_lminus; simp only [nfF_eq, f2_F]
def g_ltimes := f2F c_ltimes fun a b c d => nfF (a * c) (b * d) fun d => .ok (.fz d) []
theorem g_ltimes_eq : c_ltimes = g_ltimes := by rw [f_ltimes_eq]; unfold f_ltimes g_ltimes; simp only [nfF_eq, f2_F]
def g_lless := f2F c_lless fun a b c d => foB (decide (a * d < c * b)) fun r => .ok (.fz (.bl r)) []
theorem g_lless_eq : c_lless = g_lless := by rw [f_lless_eq]; unfold f_lless g_lless; simp only [foB_eq, f2_F]
def g_part : List S → FR
  | [.fz (.int n), .fz (.int d)] => foI n fun n => foI d fun d => if decide (0 < d) && decide (d.natAbs.log2 < 9000) then nfF n d fun d => .ok (.fz d) [] else c_part [.fz (.int n), .fz (.int d)]
  | ss => c_part ss
theorem g_part_eq : c_part = g_part := by
  rw [f_part_eq]
  funext ss
  unfold f_part g_part
  split <;> simp only [foI_eq, nfF_eq]
def g_lpart : List S → FR
  | [.fz (.int n), .fz (.int d)] => foI n fun n => foI d fun d => if decide (0 < d) && decide (d.natAbs.log2 < 9000) then nfF n d fun d => .ok (.fz d) [] else c_lpart [.fz (.int n), .fz (.int d)]
  | ss => c_lpart ss
theorem g_lpart_eq : c_lpart = g_lpart := by
  rw [f_lpart_eq]
  funext ss
  unfold f_lpart g_lpart
  split <;> simp only [foI_eq, nfF_eq]
def g_is_part := f_is_part
theorem g_is_part_eq : c_is_part = g_is_part := f_is_part_eq
def g_is_number := f_is_number
theorem g_is_number_eq : c_is_number = g_is_number := f_is_number_eq
def g_checked_number := f_checked_number
theorem g_checked_number_eq : c_checked_number = g_checked_number := f_checked_number_eq
end
/-! ### calls that change nothing -/
def cR (ρ : Env) : FR → R (S × Env)
  | .ok s [] => .ok (s, ρ)
  | .exc x [] => .exc x ρ
  | _ => .bad
theorem cR_eq {as : List AV} {ρ : Env} {r : FR} : (match r with
    | .ok s outs => if outs.length = ([] : List Nat).length then R.ok (s, putB as [] outs ρ) else .bad
    | .exc x outs => if outs.length = ([] : List Nat).length then .exc x (putB as [] outs ρ) else .bad
    | .bad => .bad) = cR ρ r := by
  cases r with
  | ok s outs => cases outs with
    | nil => rfl
    | cons o r => rfl
  | exc s outs => cases outs with
    | nil => rfl
    | cons o r => rfl
  | bad => rfl
def vC1 (f : List S → FR) (t0 : TV) : TV := fun ρ => (t0 ρ).th fun s0 ρ1 => cR ρ1 (f [.fz s0.fr])
theorem vC1_eq {f : List S → FR} {t0 : TV} : vCall [] (fills [] f) (aFz t0 aNo) = vC1 f t0 := by
  funext ρ
  unfold vC1
  rw [e_vCall, e_aFz]
  cases t0 ρ with
  | bad => rfl
  | exc x ρ => rfl
  | ok z1 =>
    rw [e_thok, e_thok, e_aNo, e_thok]
    simp only [e_thok, e_argF, e_argN, Option.map_some]
    rw [e_cA, if_pos ⟨List.nodup_nil, rfl⟩]
    exact cR_eq
def vC2 (f : List S → FR) (t0 t1 : TV) : TV := fun ρ => (t0 ρ).th fun s0 ρ1 => (t1 ρ1).th fun s1 ρ2 => cR ρ2 (f [.fz s0.fr, .fz s1.fr])
theorem vC2_eq {f : List S → FR} {t0 t1 : TV} : vCall [] (fills [] f) (aFz t0 (aFz t1 aNo)) = vC2 f t0 t1 := by
  funext ρ
  unfold vC2
  rw [e_vCall, e_aFz]
  cases t0 ρ with
  | bad => rfl
  | exc x ρ => rfl
  | ok z1 =>
    rw [e_thok, e_thok, e_aFz]
    cases t1 z1.2 with
    | bad => rfl
    | exc x ρ => rfl
    | ok z2 =>
      rw [e_thok, e_thok, e_aNo, e_thok, e_thok]
      simp only [e_thok, e_argF, e_argN, Option.map_some]
      rw [e_cA, if_pos ⟨List.nodup_nil, rfl⟩]
      exact cR_eq
def vC3 (f : List S → FR) (t0 t1 t2 : TV) : TV := fun ρ => (t0 ρ).th fun s0 ρ1 => (t1 ρ1).th fun s1 ρ2 => (t2 ρ2).th fun s2 ρ3 => cR ρ3 (f [.fz s0.fr, .fz s1.fr, .fz s2.fr])
theorem vC3_eq {f : List S → FR} {t0 t1 t2 : TV} : vCall [] (fills [] f) (aFz t0 (aFz t1 (aFz t2 aNo))) = vC3 f t0 t1 t2 := by
  funext ρ
  unfold vC3
  rw [e_vCall, e_aFz]
  cases t0 ρ with
  | bad => rfl
  | exc x ρ => rfl
  | ok z1 =>
    rw [e_thok, e_thok, e_aFz]
    cases t1 z1.2 with
    | bad => rfl
    | exc x ρ => rfl
    | ok z2 =>
      rw [e_thok, e_thok, e_aFz]
      cases t2 z2.2 with
      | bad => rfl
      | exc x ρ => rfl
      | ok z3 =>
        rw [e_thok, e_thok, e_aNo, e_thok, e_thok, e_thok]
        simp only [e_thok, e_argF, e_argN, Option.map_some]
        rw [e_cA, if_pos ⟨List.nodup_nil, rfl⟩]
        exact cR_eq
def vC4 (f : List S → FR) (t0 t1 t2 t3 : TV) : TV := fun ρ => (t0 ρ).th fun s0 ρ1 => (t1 ρ1).th fun s1 ρ2 => (t2 ρ2).th fun s2 ρ3 => (t3 ρ3).th fun s3 ρ4 => cR ρ4 (f [.fz s0.fr, .fz s1.fr, .fz s2.fr, .fz s3.fr])
theorem vC4_eq {f : List S → FR} {t0 t1 t2 t3 : TV} : vCall [] (fills [] f) (aFz t0 (aFz t1 (aFz t2 (aFz t3 aNo)))) = vC4 f t0 t1 t2 t3 := by
  funext ρ
  unfold vC4
  rw [e_vCall, e_aFz]
  cases t0 ρ with
  | bad => rfl
  | exc x ρ => rfl
  | ok z1 =>
    rw [e_thok, e_thok, e_aFz]
    cases t1 z1.2 with
    | bad => rfl
    | exc x ρ => rfl
    | ok z2 =>
      rw [e_thok, e_thok, e_aFz]
      cases t2 z2.2 with
      | bad => rfl
      | exc x ρ => rfl
      | ok z3 =>
        rw [e_thok, e_thok, e_aFz]
        cases t3 z3.2 with
        | bad => rfl
        | exc x ρ => rfl
        | ok z4 =>
          rw [e_thok, e_thok, e_aNo, e_thok, e_thok, e_thok, e_thok]
          simp only [e_thok, e_argF, e_argN, Option.map_some]
          rw [e_cA, if_pos ⟨List.nodup_nil, rfl⟩]
          exact cR_eq
def vC5 (f : List S → FR) (t0 t1 t2 t3 t4 : TV) : TV := fun ρ => (t0 ρ).th fun s0 ρ1 => (t1 ρ1).th fun s1 ρ2 => (t2 ρ2).th fun s2 ρ3 => (t3 ρ3).th fun s3 ρ4 => (t4 ρ4).th fun s4 ρ5 => cR ρ5 (f [.fz s0.fr, .fz s1.fr, .fz s2.fr, .fz s3.fr, .fz s4.fr])
theorem vC5_eq {f : List S → FR} {t0 t1 t2 t3 t4 : TV} : vCall [] (fills [] f) (aFz t0 (aFz t1 (aFz t2 (aFz t3 (aFz t4 aNo))))) = vC5 f t0 t1 t2 t3 t4 := by
  funext ρ
  unfold vC5
  rw [e_vCall, e_aFz]
  cases t0 ρ with
  | bad => rfl
  | exc x ρ => rfl
  | ok z1 =>
    rw [e_thok, e_thok, e_aFz]
    cases t1 z1.2 with
    | bad => rfl
    | exc x ρ => rfl
    | ok z2 =>
      rw [e_thok, e_thok, e_aFz]
      cases t2 z2.2 with
      | bad => rfl
      | exc x ρ => rfl
      | ok z3 =>
        rw [e_thok, e_thok, e_aFz]
        cases t3 z3.2 with
        | bad => rfl
        | exc x ρ => rfl
        | ok z4 =>
          rw [e_thok, e_thok, e_aFz]
          cases t4 z4.2 with
          | bad => rfl
          | exc x ρ => rfl
          | ok z5 =>
            rw [e_thok, e_thok, e_aNo, e_thok, e_thok, e_thok, e_thok, e_thok]
            simp only [e_thok, e_argF, e_argN, Option.map_some]
            rw [e_cA, if_pos ⟨List.nodup_nil, rfl⟩]
            exact cR_eq
end VS
namespace VS
open PySem PySem.Spec PyProof.Rows L2
/-! ### draws within a law's statements -/
theorem same_eq {m : Nat → List S → FR} (h0 : m 0 = fun _ => .bad) (h : ∀ n, m (n + 1) = fnSem 3 2 [] (c_sameB (m n))) : m = c_same := by
  funext n
  induction n with
  | zero => rw [h0]; rfl
  | succ n ih => rw [h, ih]; rfl
theorem pool_ok (ns : List Int) : ∃ p, c_pool [.fz (.scr ns)] = .ok p [] ∧ PoolOk 0 p := by
  refine ⟨_, ?_, ns, 0, 0, 0, 0, rfl, Nat.zero_le _, Int.le_refl _, Int.le_refl _, by decide, Nat.le_refl _⟩
  unfold c_pool c_poolB
  simp only [fnSem, begin, e_thok, e_thexc, e_stok, e_stexc, e_onx, e_ort, e_obk, e_oct, e_oexc, e_rOv, e_rOn, e_qOv, e_qOn, e_rS, e_rB, e_rV, e_rM, e_qS, e_oV, e_oQ, e_vQ, e_qVar, e_qC, e_vVar, e_vMove, e_o1, e_o2, e_v1, e_v2, e_bind, e_frz, e_frl, e_seq, e_set, e_ret, e_drop, e_pass, e_brk, e_cnt, e_raise, e_raise1, e_if, e_bC, e_bV, e_qT, e_bQ, e_bAnd, e_bOr, e_bNot, e_bYes, e_bl, e_trub, e_trui, e_trul, e_trut, e_trus, e_trun, e_int?, e_vIf, e_le, e_lt, e_ge, e_gt, e_add, e_sub, e_neg, e_abs, e_int, e_lenl, e_lent, e_lens, e_listl, e_listt, e_lists, e_min2, e_max2, e_ix, e_ixt, atI_nat, atI_0, atI_1, atI_2, atI_3, atI_4, e_mapv, e_pO, e_pP, e_sPut, e_aNo, e_aFz, e_aS, e_aSl, e_gS, e_argN, e_argF, e_argL, e_vCall, e_cA, e_cFok, e_cFexc, e_fills, e_qNo, e_qA, e_qAnd, e_oTup, e_oLst, e_tT, e_tL, e_sz, e_szl, e_vLst, e_vTup, e_dL, e_dT, e_allN, e_allC, e_mR, e_mL, e_mS, e_vLm, e_lA, e_lO, e_vAnd, e_vOrB, e_chA, e_oCh, e_sFor, e_iS, e_iSeq, e_itl, e_itt, e_its, e_iR, e_iRng0, e_forN, e_aName, e_aTup, e_aCons, e_aNil, e_vLc, e_vLc2, e_lR, e_wpN, e_wpC, e_rstF, e_rstL, e_rstN, e_rsN, e_rsC, Option.map_some, Option.map_none, List.getElem?_cons_zero, List.getElem?_cons_succ, List.set_cons_zero, List.set_cons_succ, List.map_cons, List.map_nil, List.cons_append, List.nil_append, List.append_nil, List.length_cons, List.length_nil, List.replicate, Nat.reduceAdd, Nat.reduceSub, if_true, if_false, ite_true, ite_false, decide_true, decide_false, Bool.false_eq_true, Bool.not_true, Bool.not_false, decide_eq_true_eq, decide_not, Bool.not_eq_true', decide_eq_false_iff_not, e_isaI, e_isaB, e_isaS, e_isaL, e_isaT, e_isaN, e_isa2I, e_isa2B, e_isa2S, e_isa2L, e_isa2T, e_isNnon, e_isNint, e_isNbl, e_isNstr, e_isNlst, e_isNtup, e_isB, e_eqI, e_neI, e_pow18, isaB, String.reduceBEq, Bool.or_false, Bool.false_or, Bool.and_false, Bool.false_and, Bool.true_and, Bool.and_true, Bool.or_true, Bool.true_or, Bool.xor_false, Bool.false_xor, Bool.xor_true, Bool.true_xor, e_mulS, e_divS, e_mod, e_append, e_put, e_put1, e_put2, e_put3, e_put4, e_frN, e_frR, e_frX, e_frE, e_frO, e_outN, e_outC, e_ou, e_notB, e_notL, e_slN, e_slF, e_slL, e_cmN, e_cmC, e_fzF, e_pb, e_pbF, e_putN, e_putC, List.nodup_cons, List.nodup_nil, List.not_mem_nil, List.mem_cons, not_false_eq_true, or_false, and_self, and_true, true_and, List.contains_cons, List.contains_nil, BEq.rfl, Int.reduceLT, Int.reduceLE, Int.reduceAdd, Int.reduceSub, Int.reduceMul, Int.reduceNeg, Int.reduceEq, Nat.reduceLT, Nat.reduceLeDiff, Nat.reduceMul, Int.toNat_natCast, Nat.reduceLeDiff]
  rfl
theorem PoolOk.isFz {n : Nat} {p : S} (h : PoolOk n p) : isFz p = false := by obtain ⟨ns, i, a, b, c, rfl, _⟩ := h; rfl
section
variable {n k : Nat} {ρ ρ1 : Env} {T : TV} {p p0 : S}
theorem draw_v {many : Int} (hp1 : ρ[k]? = some (some p0)) (hT : T ρ = .ok (.fz (.int many), ρ1)) (hp2 : ρ1[k]? = some (some p)) (hp : PoolOk n p) (hn : n < 2 ^ 60) (h1 : 0 < many) (h2 : many < 2 ^ 60) :
    ∃ (r : Int) (p' : S), 0 ≤ r ∧ r < many ∧ PoolOk (n + 1) p' ∧ vCall [0] (fills [] c_draw) (aSl k (aFz T aNo)) ρ = .ok (.fz (.int r), ρ1.set k (some p')) := by
  obtain ⟨r, p', e, a, b, c⟩ := draw_ok hp hn h1 h2
  exact ⟨r, p', a, b, c, by simp only [fnSem, begin, e_thok, e_thexc, e_stok, e_stexc, e_onx, e_ort, e_obk, e_oct, e_oexc, e_rOv, e_rOn, e_qOv, e_qOn, e_rS, e_rB, e_rV, e_rM, e_qS, e_oV, e_oQ, e_vQ, e_qVar, e_qC, e_vVar, e_vMove, e_o1, e_o2, e_v1, e_v2, e_bind, e_frz, e_frl, e_seq, e_set, e_ret, e_drop, e_pass, e_brk, e_cnt, e_raise, e_raise1, e_if, e_bC, e_bV, e_qT, e_bQ, e_bAnd, e_bOr, e_bNot, e_bYes, e_bl, e_trub, e_trui, e_trul, e_trut, e_trus, e_trun, e_int?, e_vIf, e_le, e_lt, e_ge, e_gt, e_add, e_sub, e_neg, e_abs, e_int, e_lenl, e_lent, e_lens, e_listl, e_listt, e_lists, e_min2, e_max2, e_ix, e_ixt, atI_nat, atI_0, atI_1, atI_2, atI_3, atI_4, e_mapv, e_pO, e_pP, e_sPut, e_aNo, e_aFz, e_aS, e_aSl, e_gS, e_argN, e_argF, e_argL, e_vCall, e_cA, e_cFok, e_cFexc, e_fills, e_qNo, e_qA, e_qAnd, e_oTup, e_oLst, e_tT, e_tL, e_sz, e_szl, e_vLst, e_vTup, e_dL, e_dT, e_allN, e_allC, e_mR, e_mL, e_mS, e_vLm, e_lA, e_lO, e_vAnd, e_vOrB, e_chA, e_oCh, e_sFor, e_iS, e_iSeq, e_itl, e_itt, e_its, e_iR, e_iRng0, e_forN, e_aName, e_aTup, e_aCons, e_aNil, e_vLc, e_vLc2, e_lR, e_wpN, e_wpC, e_rstF, e_rstL, e_rstN, e_rsN, e_rsC, Option.map_some, Option.map_none, List.getElem?_cons_zero, List.getElem?_cons_succ, List.set_cons_zero, List.set_cons_succ, List.map_cons, List.map_nil, List.cons_append, List.nil_append, List.append_nil, List.length_cons, List.length_nil, List.replicate, Nat.reduceAdd, Nat.reduceSub, if_true, if_false, ite_true, ite_false, decide_true, decide_false, Bool.false_eq_true, Bool.not_true, Bool.not_false, decide_eq_true_eq, decide_not, Bool.not_eq_true', decide_eq_false_iff_not, e_isaI, e_isaB, e_isaS, e_isaL, e_isaT, e_isaN, e_isa2I, e_isa2B, e_isa2S, e_isa2L, e_isa2T, e_isNnon, e_isNint, e_isNbl, e_isNstr, e_isNlst, e_isNtup, e_isB, e_eqI, e_neI, e_pow18, isaB, String.reduceBEq, Bool.or_false, Bool.false_or, Bool.and_false, Bool.false_and, Bool.true_and, Bool.and_true, Bool.or_true, Bool.true_or, Bool.xor_false, Bool.false_xor, Bool.xor_true, Bool.true_xor, e_mulS, e_divS, e_mod, e_append, e_put, e_put1, e_put2, e_put3, e_put4, e_frN, e_frR, e_frX, e_frE, e_frO, e_outN, e_outC, e_ou, e_notB, e_notL, e_slN, e_slF, e_slL, e_cmN, e_cmC, e_fzF, e_pb, e_pbF, e_putN, e_putC, List.nodup_cons, List.nodup_nil, List.not_mem_nil, List.mem_cons, not_false_eq_true, or_false, and_self, and_true, true_and, List.contains_cons, List.contains_nil, BEq.rfl, Int.reduceLT, Int.reduceLE, Int.reduceAdd, Int.reduceSub, Int.reduceMul, Int.reduceNeg, Int.reduceEq, Nat.reduceLT, Nat.reduceLeDiff, Nat.reduceMul, Int.toNat_natCast, hp1, hT, hp2, e]⟩
theorem pick_v {ds : List D} {s : S} (hp1 : ρ[k]? = some (some p0)) (hT : T ρ = .ok (s, ρ1)) (hs : s.fr = .lst ds) (hp2 : ρ1[k]? = some (some p)) (hp : PoolOk n p) (hn : n < 2 ^ 60) (h1 : ds ≠ []) (h2 : ds.length < 2 ^ 60) :
    ∃ (i : Nat) (d : D) (p' : S), ds[i]? = some d ∧ PoolOk (n + 1) p' ∧ vCall [0] (fills [] c_pick) (aSl k (aFz T aNo)) ρ = .ok (.fz d, ρ1.set k (some p')) := by
  obtain ⟨i, d, p', a, e, c⟩ := pick_ok hp hn h1 h2
  exact ⟨i, d, p', a, c, by simp only [fnSem, begin, e_thok, e_thexc, e_stok, e_stexc, e_onx, e_ort, e_obk, e_oct, e_oexc, e_rOv, e_rOn, e_qOv, e_qOn, e_rS, e_rB, e_rV, e_rM, e_qS, e_oV, e_oQ, e_vQ, e_qVar, e_qC, e_vVar, e_vMove, e_o1, e_o2, e_v1, e_v2, e_bind, e_frz, e_frl, e_seq, e_set, e_ret, e_drop, e_pass, e_brk, e_cnt, e_raise, e_raise1, e_if, e_bC, e_bV, e_qT, e_bQ, e_bAnd, e_bOr, e_bNot, e_bYes, e_bl, e_trub, e_trui, e_trul, e_trut, e_trus, e_trun, e_int?, e_vIf, e_le, e_lt, e_ge, e_gt, e_add, e_sub, e_neg, e_abs, e_int, e_lenl, e_lent, e_lens, e_listl, e_listt, e_lists, e_min2, e_max2, e_ix, e_ixt, atI_nat, atI_0, atI_1, atI_2, atI_3, atI_4, e_mapv, e_pO, e_pP, e_sPut, e_aNo, e_aFz, e_aS, e_aSl, e_gS, e_argN, e_argF, e_argL, e_vCall, e_cA, e_cFok, e_cFexc, e_fills, e_qNo, e_qA, e_qAnd, e_oTup, e_oLst, e_tT, e_tL, e_sz, e_szl, e_vLst, e_vTup, e_dL, e_dT, e_allN, e_allC, e_mR, e_mL, e_mS, e_vLm, e_lA, e_lO, e_vAnd, e_vOrB, e_chA, e_oCh, e_sFor, e_iS, e_iSeq, e_itl, e_itt, e_its, e_iR, e_iRng0, e_forN, e_aName, e_aTup, e_aCons, e_aNil, e_vLc, e_vLc2, e_lR, e_wpN, e_wpC, e_rstF, e_rstL, e_rstN, e_rsN, e_rsC, Option.map_some, Option.map_none, List.getElem?_cons_zero, List.getElem?_cons_succ, List.set_cons_zero, List.set_cons_succ, List.map_cons, List.map_nil, List.cons_append, List.nil_append, List.append_nil, List.length_cons, List.length_nil, List.replicate, Nat.reduceAdd, Nat.reduceSub, if_true, if_false, ite_true, ite_false, decide_true, decide_false, Bool.false_eq_true, Bool.not_true, Bool.not_false, decide_eq_true_eq, decide_not, Bool.not_eq_true', decide_eq_false_iff_not, e_isaI, e_isaB, e_isaS, e_isaL, e_isaT, e_isaN, e_isa2I, e_isa2B, e_isa2S, e_isa2L, e_isa2T, e_isNnon, e_isNint, e_isNbl, e_isNstr, e_isNlst, e_isNtup, e_isB, e_eqI, e_neI, e_pow18, isaB, String.reduceBEq, Bool.or_false, Bool.false_or, Bool.and_false, Bool.false_and, Bool.true_and, Bool.and_true, Bool.or_true, Bool.true_or, Bool.xor_false, Bool.false_xor, Bool.xor_true, Bool.true_xor, e_mulS, e_divS, e_mod, e_append, e_put, e_put1, e_put2, e_put3, e_put4, e_frN, e_frR, e_frX, e_frE, e_frO, e_outN, e_outC, e_ou, e_notB, e_notL, e_slN, e_slF, e_slL, e_cmN, e_cmC, e_fzF, e_pb, e_pbF, e_putN, e_putC, List.nodup_cons, List.nodup_nil, List.not_mem_nil, List.mem_cons, not_false_eq_true, or_false, and_self, and_true, true_and, List.contains_cons, List.contains_nil, BEq.rfl, Int.reduceLT, Int.reduceLE, Int.reduceAdd, Int.reduceSub, Int.reduceMul, Int.reduceNeg, Int.reduceEq, Nat.reduceLT, Nat.reduceLeDiff, Nat.reduceMul, Int.toNat_natCast, hp1, hT, hs, hp2, e]⟩
end
/-- a comprehension, each turn knowing what is behind and ahead; J: what was walked, what was made -/
theorem lc_pre {own : List Nat} {a : TAs} {b : TB} {t : TV} {J : List D → List D → Env → Prop} {all : List D} : ∀ {ds done acc : List D} {ρ : Env}, all = done ++ ds → J done acc ρ → acc.length + ds.length ≤ sizeLine →
    (∀ l d r acc ρ, all = l ++ d :: r → J l acc ρ → ∃ ρ1, a d (wipeE ρ own) = some ρ1 ∧ ∃ k ρ2, b ρ1 = .ok (k, ρ2) ∧ ((k = false ∧ J (l ++ [d]) acc ρ2) ∨ (k = true ∧ ∃ s ρ3, t ρ2 = .ok (s, ρ3) ∧ J (l ++ [d]) (acc ++ [s.fr]) ρ3))) →
    ∃ acc' ρ', lcL own a b t ds acc ρ = .ok (acc', ρ') ∧ J all acc' ρ'
  | [], done, acc, ρ, ha, h, _, _ => ⟨acc, ρ, rfl, by rw [ha, List.append_nil]; exact h⟩
  | d :: ds, done, acc, ρ, ha, h, hl, hs => by
    obtain ⟨ρ1, h1, k, ρ2, h2, h3⟩ := hs done d ds acc ρ ha h
    have hl' : acc.length + (ds.length + 1) ≤ sizeLine := hl
    rw [e_lcC, h1, e_lF, h2, e_thok]
    rcases h3 with ⟨rfl, i⟩ | ⟨rfl, s, ρ3, h4, i⟩
    · rw [if_neg Bool.false_ne_true]
      exact lc_pre (by rw [ha, List.append_assoc]; rfl) i (by omega) hs
    · rw [if_pos rfl, h4, e_thok, if_pos (by omega)]
      exact lc_pre (by rw [ha, List.append_assoc]; rfl) i (by rw [List.length_append]; show acc.length + 1 + ds.length ≤ _; omega) hs
/-- a range's numbers, by place -/
theorem rng_split {a b : Int} {l r : List D} {d : D} (h : rng a b = l ++ d :: r) : d = .int (a + l.length) ∧ a + (l.length : Int) < b := by
  have hl := congrArg List.length h
  have h1 : (rng a b).length = (b - a).toNat := by unfold rng; simp
  rw [h1, List.length_append, List.length_cons] at hl
  have h2 : (rng a b)[l.length]? = some d := by rw [h]; simp
  unfold rng at h2
  rw [List.getElem?_map, List.getElem?_range (by omega)] at h2
  exact ⟨by simpa using h2.symm, by omega⟩
theorem rng_len {a b : Int} : (rng a b).length = (b - a).toNat := by unfold rng; simp
theorem set_eq {i : Nat} {t : TV} {ρ ρ1 : Env} {s : S} (h : t ρ = .ok (s, ρ1)) : sSet i t ρ = .nx (ρ1.set i (some s)) := by rw [e_set, h, e_stok]
theorem seq_nx {x y : TSt} {ρ ρ1 : Env} (h : x ρ = .nx ρ1) : sSeq x y ρ = y ρ1 := by rw [e_seq, h, e_onx]
theorem PoolOk.mono {n m : Nat} {p : S} (h : PoolOk n p) (hm : n ≤ m) : PoolOk m p := by
  obtain ⟨ns, i, a, b, c, rfl, h1, h2, h3, h4, h5⟩ := h
  exact ⟨ns, i, a, b, c, rfl, h1, h2, h3, h4, Nat.le_trans h5 hm⟩
/-! ### slices -/
section
variable {ρ : Env} {t : TQ} {tv : TV} {l h : Env → Option (Option Int)} {ds : List D} {lo hi : Option Int}
theorem e_oCut : oCut t l h ρ = (t ρ).bind fun s => (l ρ).bind fun lo => (h ρ).bind fun hi => dCut s.fr lo hi := Eq.trans rfl rfl
def rOp (ρ : Env) (o : Option OO) : R (S × Env) := R.op ρ o
theorem e_rop {o : Option OO} : R.op ρ o = rO ρ o := by cases o with | none => rfl | some o => cases o <;> rfl
theorem e_vCut : vCut tv l h ρ = (tv ρ).th fun s ρ1 => rO ρ1 ((l ρ1).bind fun lo => (h ρ1).bind fun hi => dCut s.fr lo hi) := by unfold vCut; simp only [e_rop]
theorem e_pNo : pNo ρ = some none := Eq.trans rfl rfl
theorem e_pSo : pSo t ρ = (t ρ).bind fun s => s.int?.map some := Eq.trans rfl rfl
theorem e_cutl : dCut (.lst ds) lo hi = some (.n (.lst (cutL ds lo hi))) := Eq.trans rfl rfl
theorem e_cutt : dCut (.tup ds) lo hi = some (.v (.tup (cutL ds lo hi))) := Eq.trans rfl rfl
theorem cutL_mem {d : D} (hd : d ∈ cutL ds lo hi) : d ∈ ds := List.mem_of_mem_drop (List.mem_of_mem_take hd)
end
/-! ### range(a, b) -/
section
variable {ρ : Env} {ta tb : TV} {i j : Int}
def iK (k : Int → R (List D × Env)) : Option Int → R (List D × Env)
  | some i => k i
  | none => .bad
def iR3 (ρ : Env) (i : Int) : Option Int → R (List D × Env)
  | some j => if -(2 ^ 62) ≤ i ∧ i < 2 ^ 62 ∧ -(2 ^ 62) ≤ j ∧ j < 2 ^ 62 then .ok (rng i j, ρ) else .bad
  | none => .bad
theorem e_iK {k : Int → R (List D × Env)} : iK k (some i) = k i := Eq.trans rfl rfl
theorem e_iR3 (h1 : Rg i) (h2 : Rg j) : iR3 ρ i (some j) = .ok (rng i j, ρ) := if_pos ⟨h1.1, h1.2, h2.1, h2.2⟩
theorem e_iRng : iRng ta tb ρ = (ta ρ).th fun s ρ1 => iK (fun i => (tb ρ1).th fun s2 ρ2 => iR3 ρ2 i s2.int?) s.int? := by
  unfold iRng iK iR3
  rfl
end
theorem v2_ok {f : D → D → Option OO} {t u : TV} {ρ ρ1 ρ2 : Env} {s s' : S} (h1 : t ρ = .ok (s, ρ1)) (h2 : u ρ1 = .ok (s', ρ2)) : v2 f t u ρ = rO ρ2 (f s.fr s'.fr) := by rw [e_v2, h1, e_thok, h2, e_thok]
theorem v1_ok {f : D → Option OO} {t : TV} {ρ ρ1 : Env} {s : S} (h1 : t ρ = .ok (s, ρ1)) : v1 f t ρ = rO ρ1 (f s.fr) := by rw [e_v1, h1, e_thok]
theorem vLc_ok {own : List Nat} {it : TIt} {a : TAs} {b : TB} {t : TV} {ρ ρ1 ρ2 : Env} {ds acc : List D} (h1 : it ρ = .ok (ds, ρ1)) (h2 : lcL own a b t ds [] ρ1 = .ok (acc, ρ2)) : vLc own it a b t ρ = .ok (.lst acc, restE ρ1 own ρ2) := by rw [e_vLc, h1, e_thok, h2, e_lR]
theorem for_ok {it : TIt} {a : TAs} {t : TSt} {ρ ρ1 : Env} {ds : List D} (h1 : it ρ = .ok (ds, ρ1)) : sFor it a t ρ = forL a t ds ρ1 := by rw [e_sFor, h1, e_stok]
theorem seq_assoc {s t u : TSt} : sSeq (sSeq s t) u = sSeq s (sSeq t u) := by
  funext ρ
  rw [e_seq, e_seq, e_seq]
  cases s ρ with
  | nx ρ1 => rw [e_onx, e_onx, e_seq]
  | rt s' ρ1 => rfl
  | bk ρ1 => rfl
  | ct ρ1 => rfl
  | exc y ρ1 => rfl
  | bad => rfl
theorem fn_rt {n np : Nat} {t : TSt} {ss : List S} {s : S} {ρ : Env} (hl : ss.length = np) (h : t (begin n ss) = .rt s ρ) : fnSem n np [] t ss = .ok s [] := by
  unfold fnSem
  rw [if_pos hl, h]
  rfl
end VS
namespace K61
open PySem PySem.Spec PyProof.Rows L2 VS
noncomputable section
def b_common : TSt :=
    (sSeq (sWhile 20000 (bC (oV (o2 dGt (qVar 1) (qC (.int 0)))))
    (sPar 0 1 (aFz (vVar 1) (aFz (oV (o2 dMod (qVar 0) (qVar 1))) aNo))))
    (sRet (vVar 0)))
def m_common : List S → FR := fnSem 2 2 [] b_common
def b_part : TSt :=
    (sSeq (sIf (bOr (bQ (oQ (o1 (dIsa "bool") (qVar 0)))) (bOr (bQ (oQ (o1 (dIsa "bool") (qVar 1)))) (bOr (bNot (bQ (oQ (o1 (dIsa "int") (qVar 0))))) (bOr (bNot (bQ (oQ (o1 (dIsa "int") (qVar 1))))) (bC (oV (o2 dLt (qVar 1) (qC (.int 1)))))))))
    (sRaise "InvalidNumber")
    sPass)
    (sSeq (sSet 2 (vCall [] (fills [] m_common) (aFz (oV (o1 dAbs (qVar 0))) (aFz (vVar 1) aNo))))
    (sRet (oV (oTup (qAnd (oQ (o2 dDiv (qVar 0) (qVar 2))) (qAnd (oQ (o2 dDiv (qVar 1) (qVar 2))) qNo)))))))
def m_part : List S → FR := fnSem 3 2 [] b_part
def b_is_part : TSt :=
    (sSeq (sIf (bOr (bNot (bQ (oQ (o1 (dIsa "tuple") (qVar 0))))) (bC (oV (o2 dNe (oQ (o1 dLen (qVar 0))) (qC (.int 2))))))
    (sRet (vQ (qC (.bl false))))
    sPass)
    (sSeq (sFor (iSeq (vVar 0)) (aName 1)
    (sIf (bOr (bQ (oQ (o1 (dIsa "bool") (qVar 1)))) (bNot (bQ (oQ (o1 (dIsa "int") (qVar 1))))))
      (sRet (vQ (qC (.bl false))))
      sPass))
    (sRet (vAnd (oV (o2 dGe (oQ (o2 dSub1 (qVar 0) (qC (.int 1)))) (qC (.int 1)))) (v2 dEq (vCall [] (fills [] m_common) (aFz (oV (o1 dAbs (oQ (o2 dSub1 (qVar 0) (qC (.int 0)))))) (aFz (oV (o2 dSub1 (qVar 0) (qC (.int 1)))) aNo))) (vQ (qC (.int 1))))))))
def m_is_part : List S → FR := fnSem 2 1 [] b_is_part
def b_plus : TSt :=
    (sRet (vCall [] (fills [] m_part) (aFz (oV (o2 dAdd (oQ (o2 dMul (oQ (o2 dSub1 (qVar 0) (qC (.int 0)))) (oQ (o2 dSub1 (qVar 1) (qC (.int 1)))))) (oQ (o2 dMul (oQ (o2 dSub1 (qVar 1) (qC (.int 0)))) (oQ (o2 dSub1 (qVar 0) (qC (.int 1)))))))) (aFz (oV (o2 dMul (oQ (o2 dSub1 (qVar 0) (qC (.int 1)))) (oQ (o2 dSub1 (qVar 1) (qC (.int 1)))))) aNo))))
def m_plus : List S → FR := fnSem 2 2 [] b_plus
def b_minus : TSt :=
    (sRet (vCall [] (fills [] m_part) (aFz (oV (o2 dSub (oQ (o2 dMul (oQ (o2 dSub1 (qVar 0) (qC (.int 0)))) (oQ (o2 dSub1 (qVar 1) (qC (.int 1)))))) (oQ (o2 dMul (oQ (o2 dSub1 (qVar 1) (qC (.int 0)))) (oQ (o2 dSub1 (qVar 0) (qC (.int 1)))))))) (aFz (oV (o2 dMul (oQ (o2 dSub1 (qVar 0) (qC (.int 1)))) (oQ (o2 dSub1 (qVar 1) (qC (.int 1)))))) aNo))))
def m_minus : List S → FR := fnSem 2 2 [] b_minus
def b_times : TSt :=
    (sRet (vCall [] (fills [] m_part) (aFz (oV (o2 dMul (oQ (o2 dSub1 (qVar 0) (qC (.int 0)))) (oQ (o2 dSub1 (qVar 1) (qC (.int 0)))))) (aFz (oV (o2 dMul (oQ (o2 dSub1 (qVar 0) (qC (.int 1)))) (oQ (o2 dSub1 (qVar 1) (qC (.int 1)))))) aNo))))
def m_times : List S → FR := fnSem 2 2 [] b_times
def b_is_less : TSt :=
    (sRet (oV (o2 dLt (oQ (o2 dMul (oQ (o2 dSub1 (qVar 0) (qC (.int 0)))) (oQ (o2 dSub1 (qVar 1) (qC (.int 1)))))) (oQ (o2 dMul (oQ (o2 dSub1 (qVar 1) (qC (.int 0)))) (oQ (o2 dSub1 (qVar 0) (qC (.int 1)))))))))
def m_is_less : List S → FR := fnSem 2 2 [] b_is_less
def b_is_number : TSt :=
    (sSeq (sIf (bOr (bQ (oQ (o1 (dIsa "bool") (qVar 0)))) (bNot (bQ (oQ (o1 (dIsa "int") (qVar 0))))))
    (sRet (vQ (qC (.bl false))))
    sPass)
    (sRet (oV (oCh dLe dLe (qVar 1) (qVar 0) (qVar 2)))))
def m_is_number : List S → FR := fnSem 3 3 [] b_is_number
def b_checked_number : TSt :=
    (sSeq (sIf (bNot (bV (vCall [] (fills [] m_is_number) (aFz (vVar 0) (aFz (vVar 1) (aFz (vVar 2) aNo))))))
    (sRaise1 "InvalidNumber" (oV (o2 dAdd (oQ (o2 dAdd (oQ (o2 dAdd (qC (.str "no number from ")) (oQ (o1 dStr (qVar 1))))) (qC (.str " to ")))) (oQ (o1 dStr (qVar 2))))))
    sPass)
    (sRet (vVar 0)))
def m_checked_number : List S → FR := fnSem 3 3 [] b_checked_number
def b_checked_chance : TSt :=
    (sSeq (sIf (bOr (bNot (bV (vCall [] (fills [] m_is_part) (aFz (vVar 0) aNo)))) (bOr (bC (oV (o2 dLt (oQ (o2 dSub1 (qVar 0) (qC (.int 0)))) (qC (.int 0))))) (bC (oV (o2 dGt (oQ (o2 dSub1 (qVar 0) (qC (.int 0)))) (oQ (o2 dSub1 (qVar 0) (qC (.int 1)))))))))
    (sRaise "InvalidPaper")
    sPass)
    (sRet (vVar 0)))
def m_checked_chance : List S → FR := fnSem 1 1 [] b_checked_chance
def b_rest : TSt :=
    (sRet (vCall [] (fills [] m_minus) (aFz (oV (oTup (qAnd (qC (.int 1)) (qAnd (qC (.int 1)) qNo)))) (aFz (vCall [] (fills [] m_checked_chance) (aFz (vVar 0) aNo)) aNo))))
def m_rest : List S → FR := fnSem 1 1 [] b_rest
def b_checked_lines : TSt :=
    (sSeq (sIf (bC (oV (o2 dGt (oQ (o1 dLen (qVar 0))) (qC (.int 40)))))
    (sRaise "TooMany")
    sPass)
    (sSeq (sFor (iSeq (vVar 0)) (aName 1)
    (sIf (bOr (bC (oV (o2 dNe (oQ (o1 dLen (qVar 1))) (oQ (o2 dAdd (oQ (o1 dLen (qVar 0))) (qC (.int 1))))))) (bV (vLc [2] (iSeq (vVar 1)) (aName 2) (bNot (bV (vCall [] (fills [] m_is_part) (aFz (vVar 2) aNo)))) (vVar 2))))
      (sRaise "InvalidPaper")
      sPass))
    (sRet (vLc [1] (iSeq (vVar 0)) (aName 1) bYes (oV (o1 dList (qVar 1)))))))
def m_checked_lines : List S → FR := fnSem 3 1 [] b_checked_lines
def b_over : TSt :=
    (sSeq (sIf (bC (oV (o2 dEq (oQ (o2 dSub1 (qVar 1) (qC (.int 0)))) (qC (.int 0)))))
    (sRaise "InvalidPaper")
    sPass)
    (sSeq (sIf (bC (oV (o2 dLt (oQ (o2 dSub1 (qVar 1) (qC (.int 0)))) (qC (.int 0)))))
    (sRet (vCall [] (fills [] m_part) (aFz (oV (o2 dMul (oQ (o1 dNeg (oQ (o2 dSub1 (qVar 0) (qC (.int 0)))))) (oQ (o2 dSub1 (qVar 1) (qC (.int 1)))))) (aFz (oV (o2 dMul (oQ (o2 dSub1 (qVar 0) (qC (.int 1)))) (oQ (o1 dNeg (oQ (o2 dSub1 (qVar 1) (qC (.int 0)))))))) aNo))))
    sPass)
    (sRet (vCall [] (fills [] m_part) (aFz (oV (o2 dMul (oQ (o2 dSub1 (qVar 0) (qC (.int 0)))) (oQ (o2 dSub1 (qVar 1) (qC (.int 1)))))) (aFz (oV (o2 dMul (oQ (o2 dSub1 (qVar 0) (qC (.int 1)))) (oQ (o2 dSub1 (qVar 1) (qC (.int 0)))))) aNo))))))
def m_over : List S → FR := fnSem 2 2 [] b_over
def b_solve : TSt :=
    (sSeq (sSet 1 (vCall [] (fills [] m_checked_lines) (aFz (vVar 0) aNo)))
    (sSeq (sSet 2 (oV (o1 dLen (qVar 1))))
    (sSeq (sFor (iRng0 (vVar 2)) (aName 3)
    (sSeq (sSet 4 (vLc [6] (iRng (vVar 3) (vVar 2)) (aName 6) (bC (oV (o2 dNe (oQ (o2 dSub1 (oQ (o2 dSub1 (oQ (o2 dSub1 (qVar 1) (qVar 6))) (qVar 3))) (qC (.int 0)))) (qC (.int 0))))) (vVar 6)))
      (sSeq (sIf (bNot (bQ (qVar 4)))
      (sRet (vQ (qC .non)))
      sPass)
      (sSeq (sSet 5 (vLm lmPopAt 1 (aFz (oV (o2 dSub1 (qVar 4) (qC (.int 0)))) aNo)))
      (sSeq (sSet 5 (vLc [8] (iSeq (vVar 5)) (aName 8) bYes (vCall [] (fills [] m_over) (aFz (vVar 8) (aFz (oV (o2 dSub1 (qVar 5) (qVar 3))) aNo)))))
      (sSeq (sDrop (vLm lmInsert 1 (aFz (vVar 3) (aFz (vVar 5) aNo))))
      (sFor (iRng0 (vVar 2)) (aName 6)
      (sIf (bAnd (bC (oV (o2 dNe (qVar 6) (qVar 3)))) (bC (oV (o2 dNe (oQ (o2 dSub1 (oQ (o2 dSub1 (oQ (o2 dSub1 (qVar 1) (qVar 6))) (qVar 3))) (qC (.int 0)))) (qC (.int 0))))))
        (sSeq (sSet 9 (oV (o2 dSub1 (oQ (o2 dSub1 (qVar 1) (qVar 6))) (qVar 3))))
          (sPut 1 (vLc [10] (iRng0 (oV (o2 dAdd (qVar 2) (qC (.int 1))))) (aName 10) bYes (vCall [] (fills [] m_minus) (aFz (oV (o2 dSub1 (oQ (o2 dSub1 (qVar 1) (qVar 6))) (qVar 10))) (aFz (vCall [] (fills [] m_times) (aFz (vVar 9) (aFz (oV (o2 dSub1 (qVar 5) (qVar 10))) aNo))) aNo)))) (qVar 6)))
        sPass))))))))
    (sRet (vLc [7] (iSeq (vVar 1)) (aName 7) bYes (oV (o2 dSub1 (qVar 7) (qVar 2))))))))
def m_solve : List S → FR := fnSem 11 1 [] b_solve
def b_checked_plan : TSt :=
    (sSeq (sDrop (vCall [] (fills [] m_checked_number) (aFz (vVar 0) (aFz (vQ (qC (.int 2))) (aFz (vQ (qC (.int 20))) aNo)))))
    (sSeq (sIf (bC (oV (o2 dNe (oQ (o1 dLen (qVar 1))) (oQ (o2 dSub (qVar 0) (qC (.int 1)))))))
    (sRaise "InvalidPaper")
    sPass)
    (sSeq (sFor (iRng (vQ (qC (.int 1))) (vVar 0)) (aName 2)
    (sIf (bNot (bV (vCall [] (fills [] m_is_number) (aFz (oV (o2 dSub1 (qVar 1) (oQ (o2 dSub (qVar 2) (qC (.int 1)))))) (aFz (vQ (qC (.int 1))) (aFz (oV (o2 dMin2 (qVar 2) (oQ (o2 dSub (qVar 0) (qVar 2))))) aNo))))))
      (sRaise "InvalidPaper")
      sPass))
    (sRet (oV (o1 dList (qVar 1)))))))
def m_checked_plan : List S → FR := fnSem 3 2 [] b_checked_plan
def b_timid : TSt :=
    (sSeq (sDrop (vCall [] (fills [] m_checked_number) (aFz (vVar 0) (aFz (vQ (qC (.int 2))) (aFz (vQ (qC (.int 20))) aNo)))))
    (sRet (oV (o2 dMul (oQ (oLst (qAnd (qC (.int 1)) qNo))) (oQ (o2 dSub (qVar 0) (qC (.int 1))))))))
def m_timid : List S → FR := fnSem 1 1 [] b_timid
def b_bold : TSt :=
    (sSeq (sDrop (vCall [] (fills [] m_checked_number) (aFz (vVar 0) (aFz (vQ (qC (.int 2))) (aFz (vQ (qC (.int 20))) aNo)))))
    (sRet (vLc [1] (iRng (vQ (qC (.int 1))) (vVar 0)) (aName 1) bYes (oV (o2 dMin2 (qVar 1) (oQ (o2 dSub (qVar 0) (qVar 1))))))))
def m_bold : List S → FR := fnSem 2 1 [] b_bold
def b__inner : TSt :=
    (sSeq (sDrop (vCall [] (fills [] m_checked_chance) (aFz (vVar 0) aNo)))
    (sSeq (sIf (bOr (bC (oV (o2 dEq (oQ (o2 dSub1 (qVar 0) (qC (.int 0)))) (qC (.int 0))))) (bC (oV (o2 dEq (qVar 0) (oQ (oTup (qAnd (qC (.int 1)) (qAnd (qC (.int 1)) qNo))))))))
    (sRaise "InvalidPaper")
    sPass)
    (sRet (vVar 0))))
def m__inner : List S → FR := fnSem 1 1 [] b__inner
def b_chances : TSt :=
    (sSeq (sSet 3 (vCall [] (fills [] m_checked_plan) (aFz (vVar 0) (aFz (vVar 1) aNo))))
    (sSeq (sSet 4 (vCall [] (fills [] m__inner) (aFz (vVar 2) aNo)))
    (sSeq (sSet 5 (oV (oLst qNo)))
    (sSeq (sFor (iRng (vQ (qC (.int 1))) (vVar 0)) (aName 6)
    (sSeq (sSet 7 (oV (o2 dMul (oQ (oLst (qAnd (oQ (oTup (qAnd (qC (.int 0)) (qAnd (qC (.int 1)) qNo)))) qNo))) (qVar 0))))
      (sSeq (sPut 7 (oV (oTup (qAnd (qC (.int 1)) (qAnd (qC (.int 1)) qNo)))) (oQ (o2 dSub (qVar 6) (qC (.int 1)))))
      (sSeq (sFor (iSeq (vTup (aFz (oV (oTup (qAnd (oQ (o2 dAdd (qVar 6) (oQ (o2 dSub1 (qVar 3) (oQ (o2 dSub (qVar 6) (qC (.int 1)))))))) (qAnd (qVar 4) qNo)))) (aFz (vTup (aFz (oV (o2 dSub (qVar 6) (oQ (o2 dSub1 (qVar 3) (oQ (o2 dSub (qVar 6) (qC (.int 1)))))))) (aFz (vCall [] (fills [] m_rest) (aFz (vVar 4) aNo)) aNo))) aNo)))) (aTup 2 (aCons (aName 8) (aCons (aName 9) aNil)))
      (sIf (bC (oV (o2 dEq (qVar 8) (qVar 0))))
        (sPut 7 (vCall [] (fills [] m_plus) (aFz (oV (o2 dSub1 (qVar 7) (oQ (o2 dSub (qVar 0) (qC (.int 1)))))) (aFz (vVar 9) aNo))) (oQ (o2 dSub (qVar 0) (qC (.int 1)))))
        (sIf (bC (oV (o2 dGt (qVar 8) (qC (.int 0)))))
          (sPut 7 (vCall [] (fills [] m_minus) (aFz (oV (o2 dSub1 (qVar 7) (oQ (o2 dSub (qVar 8) (qC (.int 1)))))) (aFz (vVar 9) aNo))) (oQ (o2 dSub (qVar 8) (qC (.int 1)))))
          sPass)))
      (sDrop (vLm lmAppend 5 (aFz (vVar 7) aNo)))))))
    (sRet (v2 dAdd (v2 dAdd (oV (oLst (qAnd (oQ (oTup (qAnd (qC (.int 0)) (qAnd (qC (.int 1)) qNo)))) qNo))) (vCall [] (fills [] m_solve) (aFz (vVar 5) aNo))) (oV (oLst (qAnd (oQ (oTup (qAnd (qC (.int 1)) (qAnd (qC (.int 1)) qNo)))) qNo)))))))))
def m_chances : List S → FR := fnSem 10 3 [] b_chances
def b_behind : TSt :=
    (sRet (vCall [] (fills [] m_plus) (aFz (vCall [] (fills [] m_times) (aFz (vVar 3) (aFz (oV (o2 dSub1 (qVar 0) (oQ (o2 dAdd (qVar 1) (qVar 2))))) aNo))) (aFz (vCall [] (fills [] m_times) (aFz (vCall [] (fills [] m_rest) (aFz (vVar 3) aNo)) (aFz (oV (o2 dSub1 (qVar 0) (oQ (o2 dSub (qVar 1) (qVar 2))))) aNo))) aNo))))
def m_behind : List S → FR := fnSem 4 4 [] b_behind
def b_judge_plan : TSt :=
    (sSeq (sSet 4 (vCall [] (fills [] m_checked_plan) (aFz (vVar 0) (aFz (vVar 1) aNo))))
    (sSeq (sSet 5 (vCall [] (fills [] m__inner) (aFz (vVar 2) aNo)))
    (sSeq (sIf (bOr (bC (oV (o2 dNe (oQ (o1 dLen (qVar 3))) (oQ (o2 dAdd (qVar 0) (qC (.int 1))))))) (bV (vLc [6] (iSeq (vVar 3)) (aName 6) (bNot (bV (vCall [] (fills [] m_is_part) (aFz (vVar 6) aNo)))) (vVar 6))))
    (sRet (vQ (qC (.bl false))))
    sPass)
    (sSeq (sIf (bOr (bC (oV (o2 dNe (oQ (o2 dSub1 (qVar 3) (qC (.int 0)))) (oQ (oTup (qAnd (qC (.int 0)) (qAnd (qC (.int 1)) qNo))))))) (bC (oV (o2 dNe (oQ (o2 dSub1 (qVar 3) (qVar 0))) (oQ (oTup (qAnd (qC (.int 1)) (qAnd (qC (.int 1)) qNo))))))))
    (sRet (vQ (qC (.bl false))))
    sPass)
    (sRet (v1 dNot (vLc [7] (iRng (vQ (qC (.int 1))) (vVar 0)) (aName 7) (bC (v2 dNe (oV (o2 dSub1 (qVar 3) (qVar 7))) (vCall [] (fills [] m_behind) (aFz (vVar 3) (aFz (vVar 7) (aFz (oV (o2 dSub1 (qVar 4) (oQ (o2 dSub (qVar 7) (qC (.int 1)))))) (aFz (vVar 5) aNo))))))) (vVar 7))))))))
def m_judge_plan : List S → FR := fnSem 8 4 [] b_judge_plan
def b_better : TSt :=
    (sSeq (sFor (iRng (vQ (qC (.int 1))) (vVar 0)) (aName 3)
    (sFor (iRng (vQ (qC (.int 1))) (oV (o2 dAdd (oQ (o2 dMin2 (qVar 3) (oQ (o2 dSub (qVar 0) (qVar 3))))) (qC (.int 1))))) (aName 4)
      (sIf (bV (vCall [] (fills [] m_is_less) (aFz (oV (o2 dSub1 (qVar 2) (qVar 3))) (aFz (vCall [] (fills [] m_behind) (aFz (vVar 2) (aFz (vVar 3) (aFz (vVar 4) (aFz (vVar 1) aNo))))) aNo))))
        (sRet (oV (oTup (qAnd (qVar 3) (qAnd (qVar 4) qNo)))))
        sPass)))
    (sRet (vQ (qC .non))))
def m_better : List S → FR := fnSem 5 3 [] b_better
def b_judge_best : TSt :=
    (sRet (vAnd (vCall [] (fills [] m_judge_plan) (aFz (vVar 0) (aFz (vVar 1) (aFz (vVar 2) (aFz (vVar 3) aNo))))) (v1 (dIsN false) (vCall [] (fills [] m_better) (aFz (vVar 0) (aFz (vVar 2) (aFz (vVar 3) aNo)))))))
def m_judge_best : List S → FR := fnSem 4 4 [] b_judge_best
def b_checked_plan__b_1 : TSt :=
    (sSeq (sDrop (vCall [] (fills [] m_checked_number) (aFz (vVar 0) (aFz (vQ (qC (.int 2))) (aFz (vQ (qC (.int 20))) aNo)))))
    (sSeq (sIf (bC (oV (o2 dNe (oQ (o1 dLen (qVar 1))) (oQ (o2 dSub (qVar 0) (qC (.int 1)))))))
    (sRaise "InvalidPaper")
    sPass)
    (sSeq (sFor (iRng (vQ (qC (.int 1))) (vVar 0)) (aName 2)
    (sIf (bNot (bV (vCall [] (fills [] m_is_number) (aFz (oV (o2 dSub1 (qVar 1) (oQ (o2 dSub (qVar 2) (qC (.int 1)))))) (aFz (vQ (qC (.int 1))) (aFz (oV (o2 dMin2 (qVar 2) (oQ (o2 dSub (qVar 0) (qVar 2))))) aNo))))))
      (sRaise "InvalidPaper")
      sPass))
    (sRet (oV (o1 dList (qVar 1)))))))
def m_checked_plan__b_1 : List S → FR := fnSem 3 2 [1] b_checked_plan__b_1
def b_chances__b_1 : TSt :=
    (sSeq (sSet 3 (vCall [1] (fills [] m_checked_plan__b_1) (aFz (vVar 0) (aSl 1 aNo))))
    (sSeq (sSet 4 (vCall [] (fills [] m__inner) (aFz (vVar 2) aNo)))
    (sSeq (sSet 5 (oV (oLst qNo)))
    (sSeq (sFor (iRng (vQ (qC (.int 1))) (vVar 0)) (aName 6)
    (sSeq (sSet 7 (oV (o2 dMul (oQ (oLst (qAnd (oQ (oTup (qAnd (qC (.int 0)) (qAnd (qC (.int 1)) qNo)))) qNo))) (qVar 0))))
      (sSeq (sPut 7 (oV (oTup (qAnd (qC (.int 1)) (qAnd (qC (.int 1)) qNo)))) (oQ (o2 dSub (qVar 6) (qC (.int 1)))))
      (sSeq (sFor (iSeq (vTup (aFz (oV (oTup (qAnd (oQ (o2 dAdd (qVar 6) (oQ (o2 dSub1 (qVar 3) (oQ (o2 dSub (qVar 6) (qC (.int 1)))))))) (qAnd (qVar 4) qNo)))) (aFz (vTup (aFz (oV (o2 dSub (qVar 6) (oQ (o2 dSub1 (qVar 3) (oQ (o2 dSub (qVar 6) (qC (.int 1)))))))) (aFz (vCall [] (fills [] m_rest) (aFz (vVar 4) aNo)) aNo))) aNo)))) (aTup 2 (aCons (aName 8) (aCons (aName 9) aNil)))
      (sIf (bC (oV (o2 dEq (qVar 8) (qVar 0))))
        (sPut 7 (vCall [] (fills [] m_plus) (aFz (oV (o2 dSub1 (qVar 7) (oQ (o2 dSub (qVar 0) (qC (.int 1)))))) (aFz (vVar 9) aNo))) (oQ (o2 dSub (qVar 0) (qC (.int 1)))))
        (sIf (bC (oV (o2 dGt (qVar 8) (qC (.int 0)))))
          (sPut 7 (vCall [] (fills [] m_minus) (aFz (oV (o2 dSub1 (qVar 7) (oQ (o2 dSub (qVar 8) (qC (.int 1)))))) (aFz (vVar 9) aNo))) (oQ (o2 dSub (qVar 8) (qC (.int 1)))))
          sPass)))
      (sDrop (vLm lmAppend 5 (aFz (vVar 7) aNo)))))))
    (sRet (v2 dAdd (v2 dAdd (oV (oLst (qAnd (oQ (oTup (qAnd (qC (.int 0)) (qAnd (qC (.int 1)) qNo)))) qNo))) (vCall [] (fills [] m_solve) (aFz (vVar 5) aNo))) (oV (oLst (qAnd (oQ (oTup (qAnd (qC (.int 1)) (qAnd (qC (.int 1)) qNo)))) qNo)))))))))
def m_chances__b_1 : List S → FR := fnSem 10 3 [1] b_chances__b_1
def b_best : TSt :=
    (sSeq (sSet 2 (vCall [] (fills [] m_bold) (aFz (vVar 0) aNo)))
    (sSeq (sSet 3 (vCall [] (fills [] m__inner) (aFz (vVar 1) aNo)))
    (sSeq (sSet 4 (vCall [1] (fills [] m_chances__b_1) (aFz (vVar 0) (aSl 2 (aFz (vVar 3) aNo)))))
    (sSeq (sWhile 20000 (bC (v1 (dIsN true) (vCall [] (fills [] m_better) (aFz (vVar 0) (aFz (vVar 3) (aFz (vVar 4) aNo))))))
    (sSeq (sFor (iRng (vQ (qC (.int 1))) (vVar 0)) (aName 5)
      (sFor (iRng (vQ (qC (.int 1))) (oV (o2 dAdd (oQ (o2 dMin2 (qVar 5) (oQ (o2 dSub (qVar 0) (qVar 5))))) (qC (.int 1))))) (aName 6)
        (sSeq (sSet 7 (vCall [] (fills [] m_behind) (aFz (vVar 4) (aFz (vVar 5) (aFz (oV (o2 dSub1 (qVar 2) (oQ (o2 dSub (qVar 5) (qC (.int 1)))))) (aFz (vVar 3) aNo))))))
          (sIf (bV (vCall [] (fills [] m_is_less) (aFz (vVar 7) (aFz (vCall [] (fills [] m_behind) (aFz (vVar 4) (aFz (vVar 5) (aFz (vVar 6) (aFz (vVar 3) aNo))))) aNo))))
          (sPut 2 (vVar 6) (oQ (o2 dSub (qVar 5) (qC (.int 1)))))
          sPass))))
      (sSet 4 (vCall [1] (fills [] m_chances__b_1) (aFz (vVar 0) (aSl 2 (aFz (vVar 3) aNo)))))))
    (sRet (vMove 2))))))
def m_best : List S → FR := fnSem 8 2 [] b_best
def b__law_same (self : List S → FR) : TSt :=
    (sSeq (sIf (bC (oV (o1 (dIsN false) (qVar 1))))
    (sRet (oV (o1 (dIsN false) (qVar 0))))
    sPass)
    (sSeq (sIf (bQ (oQ (o1 (dIsa2 "tuple" "list") (qVar 1))))
    (sSeq (sIf (bOr (bC (oV (o2 dNe (oQ (o1 (dIsa "tuple") (qVar 1))) (oQ (o1 (dIsa "tuple") (qVar 0)))))) (bC (oV (o2 dNe (oQ (o1 (dIsa "list") (qVar 1))) (oQ (o1 (dIsa "list") (qVar 0)))))))
      (sRet (vQ (qC (.bl false))))
      sPass)
      (sSeq (sIf (bC (oV (o2 dNe (oQ (o1 dLen (qVar 0))) (oQ (o1 dLen (qVar 1))))))
      (sRet (vQ (qC (.bl false))))
      sPass)
      (sSeq (sFor (iRng0 (oV (o1 dLen (qVar 1)))) (aName 2)
      (sIf (bNot (bV (vCall [] (fills [] self) (aFz (oV (o2 dSub1 (qVar 0) (qVar 2))) (aFz (oV (o2 dSub1 (qVar 1) (qVar 2))) aNo)))))
        (sRet (vQ (qC (.bl false))))
        sPass))
      (sRet (vQ (qC (.bl true)))))))
    sPass)
    (sSeq (sIf (bQ (oQ (o1 (dIsa "bool") (qVar 1))))
    (sRet (vAnd (oV (o1 (dIsa "bool") (qVar 0))) (oV (o2 dEq (qVar 0) (qVar 1)))))
    sPass)
    (sSeq (sIf (bQ (oQ (o1 (dIsa "int") (qVar 1))))
    (sRet (vAnd (oV (o1 (dIsa "int") (qVar 0))) (vAnd (oV (o1 dNot (oQ (o1 (dIsa "bool") (qVar 0))))) (oV (o2 dEq (qVar 0) (qVar 1))))))
    sPass)
    (sRet (vAnd (oV (o1 (dIsa "str") (qVar 0))) (oV (o2 dEq (qVar 0) (qVar 1)))))))))
def m__law_same : Nat → List S → FR
  | 0 => fun _ => .bad
  | n + 1 => fnSem 3 2 [] (b__law_same (m__law_same n))
theorem np__law_same : ∀ n ss, m__law_same n ss ≠ .bad → ss.length = 2
  | 0, ss, h => absurd rfl h
  | n + 1, ss, h => fnSem_np h
def b__law_pool : TSt :=
    (sRet (oV (oLst (qAnd (oQ (o1 dList (qVar 0))) (qAnd (qC (.int 0)) (qAnd (qC (.int 0)) (qAnd (qC (.int 0)) (qAnd (qC (.int 0)) qNo))))))))
def m__law_pool : List S → FR := fnSem 1 1 [] b__law_pool
def b__law_draw : TSt :=
    (sSeq (sIf (bC (oV (o2 dGt (oQ (o2 dSub1 (qVar 0) (qC (.int 2)))) (qC (.int 0)))))
    (sSeq (sSet 3 (oV (o2 dMod (oQ (o1 dInt (oQ (o2 dSub1 (qVar 0) (qC (.int 2)))))) (qVar 1))))
      (sSeq (sPut 0 (oV (o2 dDiv (oQ (o2 dSub1 (qVar 0) (qC (.int 2)))) (qVar 1))) (qC (.int 2)))
      (sRet (vMove 3))))
    sPass)
    (sSeq (sIf (bAnd (bC (oV (o2 dEq (oQ (o2 dMod (oQ (o1 dInt (oQ (o2 dSub1 (qVar 0) (qC (.int 4)))))) (qC (.int 8)))) (qC (.int 0))))) (bC (oV (o2 dLt (oQ (o2 dSub1 (qVar 0) (qC (.int 1)))) (oQ (o1 dLen (oQ (o2 dSub1 (qVar 0) (qC (.int 0))))))))))
    (sSeq (sSet 4 (oV (o1 dAbs (oQ (o2 dSub1 (oQ (o2 dSub1 (qVar 0) (qC (.int 0)))) (oQ (o2 dSub1 (qVar 0) (qC (.int 1)))))))))
      (sSeq (sPut 0 (oV (o2 dAdd (oQ (o2 dSub1 (qVar 0) (qC (.int 1)))) (qC (.int 1)))) (qC (.int 1)))
      (sSeq (sIf (bC (oV (o2 dGe (qVar 4) (oQ (o2 dPow (qC (.int 10)) (qC (.int 18)))))))
      (sSeq (sPut 0 (oV (o2 dDiv (qVar 4) (qVar 1))) (qC (.int 2)))
        (sRet (oV (o2 dMod (oQ (o1 dInt (qVar 4))) (qVar 1)))))
      sPass)
      (sPut 0 (vVar 4) (qC (.int 3))))))
    sPass)
    (sSeq (sPut 0 (oV (o2 dAdd (oQ (o2 dSub1 (qVar 0) (qC (.int 4)))) (qC (.int 1)))) (qC (.int 4)))
    (sSeq (sSet 2 (oV (o2 dMod (oQ (o1 dInt (oQ (o2 dAdd (oQ (o2 dAdd (oQ (o2 dMul (oQ (o2 dSub1 (qVar 0) (qC (.int 3)))) (qC (.int 48271)))) (oQ (o2 dMul (oQ (o2 dSub1 (qVar 0) (qC (.int 4)))) (qC (.int 69621)))))) (qC (.int 7919)))))) (qC (.int 2147483647)))))
    (sSeq (sSet 2 (oV (o2 dMod (oQ (o1 dInt (oQ (o2 dAdd (oQ (o2 dMul (qVar 2) (qVar 2))) (oQ (o2 dMul (oQ (o2 dSub1 (qVar 0) (qC (.int 4)))) (qC (.int 40692)))))))) (qC (.int 2147483399)))))
    (sRet (oV (o2 dMod (oQ (o1 dInt (qVar 2))) (qVar 1)))))))))
def m__law_draw : List S → FR := fnSem 5 2 [0] b__law_draw
def b__law_pick : TSt :=
    (sRet (v2 dSub1 (vVar 1) (vCall [0] (fills [] m__law_draw) (aSl 0 (aFz (oV (o1 dLen (qVar 1))) aNo)))))
def m__law_pick : List S → FR := fnSem 2 2 [0] b__law_pick
def b__law_part : TSt :=
    (sSeq (sSet 2 (oV (o1 dAbs (qVar 0))))
    (sSeq (sSet 3 (vVar 1))
    (sSeq (sWhile 20000 (bC (oV (o2 dGt (qVar 3) (qC (.int 0)))))
    (sSeq (sSet 4 (oV (o2 dMod (oQ (o1 dInt (qVar 2))) (qVar 3))))
      (sSeq (sSet 2 (vVar 3))
      (sSet 3 (vVar 4)))))
    (sRet (oV (oTup (qAnd (oQ (o2 dDiv (qVar 0) (qVar 2))) (qAnd (oQ (o2 dDiv (qVar 1) (qVar 2))) qNo))))))))
def m__law_part : List S → FR := fnSem 5 2 [] b__law_part
def b__law_plus : TSt :=
    (sRet (vCall [] (fills [] m__law_part) (aFz (oV (o2 dAdd (oQ (o2 dMul (oQ (o2 dSub1 (qVar 0) (qC (.int 0)))) (oQ (o2 dSub1 (qVar 1) (qC (.int 1)))))) (oQ (o2 dMul (oQ (o2 dSub1 (qVar 1) (qC (.int 0)))) (oQ (o2 dSub1 (qVar 0) (qC (.int 1)))))))) (aFz (oV (o2 dMul (oQ (o2 dSub1 (qVar 0) (qC (.int 1)))) (oQ (o2 dSub1 (qVar 1) (qC (.int 1)))))) aNo))))
def m__law_plus : List S → FR := fnSem 2 2 [] b__law_plus
def b__law_less : TSt :=
    (sRet (oV (o2 dLt (oQ (o2 dMul (oQ (o2 dSub1 (qVar 0) (qC (.int 0)))) (oQ (o2 dSub1 (qVar 1) (qC (.int 1)))))) (oQ (o2 dMul (oQ (o2 dSub1 (qVar 1) (qC (.int 0)))) (oQ (o2 dSub1 (qVar 0) (qC (.int 1)))))))))
def m__law_less : List S → FR := fnSem 2 2 [] b__law_less
def b__law_sum : TSt :=
    (sSeq (sSet 1 (oV (oTup (qAnd (qC (.int 0)) (qAnd (qC (.int 1)) qNo)))))
    (sSeq (sFor (iSeq (vVar 0)) (aName 2)
    (sSet 1 (vCall [] (fills [] m__law_plus) (aFz (vVar 1) (aFz (vVar 2) aNo)))))
    (sRet (vMove 1))))
def m__law_sum : List S → FR := fnSem 3 1 [] b__law_sum
def b__law_minus : TSt :=
    (sRet (vCall [] (fills [] m__law_plus) (aFz (vVar 0) (aFz (oV (oTup (qAnd (oQ (o2 dSub (qC (.int 0)) (oQ (o2 dSub1 (qVar 1) (qC (.int 0)))))) (qAnd (oQ (o2 dSub1 (qVar 1) (qC (.int 1)))) qNo)))) aNo))))
def m__law_minus : List S → FR := fnSem 2 2 [] b__law_minus
def b__law_times : TSt :=
    (sRet (vCall [] (fills [] m__law_part) (aFz (oV (o2 dMul (oQ (o2 dSub1 (qVar 0) (qC (.int 0)))) (oQ (o2 dSub1 (qVar 1) (qC (.int 0)))))) (aFz (oV (o2 dMul (oQ (o2 dSub1 (qVar 0) (qC (.int 1)))) (oQ (o2 dSub1 (qVar 1) (qC (.int 1)))))) aNo))))
def m__law_times : List S → FR := fnSem 2 2 [] b__law_times
def b__law_plan : TSt :=
    (sRet (vLc [2] (iRng (vQ (qC (.int 1))) (vVar 1)) (aName 2) bYes (v2 dAdd (vQ (qC (.int 1))) (vCall [0] (fills [] m__law_draw) (aSl 0 (aFz (oV (o2 dMin2 (qVar 2) (oQ (o2 dSub (qVar 1) (qVar 2))))) aNo))))))
def m__law_plan : List S → FR := fnSem 3 2 [0] b__law_plan
def b__law_behind : TSt :=
    (sRet (vCall [] (fills [] m__law_plus) (aFz (vCall [] (fills [] m__law_times) (aFz (vVar 3) (aFz (oV (o2 dSub1 (qVar 0) (oQ (o2 dAdd (qVar 1) (qVar 2))))) aNo))) (aFz (vCall [] (fills [] m__law_times) (aFz (oV (oTup (qAnd (oQ (o2 dSub (oQ (o2 dSub1 (qVar 3) (qC (.int 1)))) (oQ (o2 dSub1 (qVar 3) (qC (.int 0)))))) (qAnd (oQ (o2 dSub1 (qVar 3) (qC (.int 1)))) qNo)))) (aFz (oV (o2 dSub1 (qVar 0) (oQ (o2 dSub (qVar 1) (qVar 2))))) aNo))) aNo))))
def m__law_behind : List S → FR := fnSem 4 4 [] b__law_behind
def b__law_is_plan : TSt :=
    (sSeq (sIf (bOr (bC (oV (o2 dNe (oQ (o1 dLen (qVar 3))) (oQ (o2 dAdd (qVar 0) (qC (.int 1))))))) (bOr (bC (oV (o2 dNe (oQ (o2 dSub1 (qVar 3) (qC (.int 0)))) (oQ (oTup (qAnd (qC (.int 0)) (qAnd (qC (.int 1)) qNo))))))) (bC (oV (o2 dNe (oQ (o2 dSub1 (qVar 3) (qVar 0))) (oQ (oTup (qAnd (qC (.int 1)) (qAnd (qC (.int 1)) qNo)))))))))
    (sRet (vQ (qC (.bl false))))
    sPass)
    (sRet (v2 dEq (v1 dLen (vLc [4] (iRng (vQ (qC (.int 1))) (vVar 0)) (aName 4) (bC (v2 dNe (oV (o2 dSub1 (qVar 3) (qVar 4))) (vCall [] (fills [] m__law_behind) (aFz (vVar 3) (aFz (vVar 4) (aFz (oV (o2 dSub1 (qVar 1) (oQ (o2 dSub (qVar 4) (qC (.int 1)))))) (aFz (vVar 2) aNo))))))) (vVar 4))) (vQ (qC (.int 0))))))
def m__law_is_plan : List S → FR := fnSem 5 4 [] b__law_is_plan
def b__law_better : TSt :=
    (sSeq (sFor (iRng (vQ (qC (.int 1))) (vVar 0)) (aName 3)
    (sFor (iRng (vQ (qC (.int 1))) (oV (o2 dAdd (oQ (o2 dMin2 (qVar 3) (oQ (o2 dSub (qVar 0) (qVar 3))))) (qC (.int 1))))) (aName 4)
      (sIf (bV (vCall [] (fills [] m__law_less) (aFz (oV (o2 dSub1 (qVar 2) (qVar 3))) (aFz (vCall [] (fills [] m__law_behind) (aFz (vVar 2) (aFz (vVar 3) (aFz (vVar 4) (aFz (vVar 1) aNo))))) aNo))))
        (sRet (oV (oTup (qAnd (qVar 3) (qAnd (qVar 4) qNo)))))
        sPass)))
    (sRet (vQ (qC .non))))
def m__law_better : List S → FR := fnSem 5 3 [] b__law_better
def b__law_plans : TSt :=
    (sSeq (sSet 1 (oV (oLst (qAnd (oQ (oLst qNo)) qNo))))
    (sSeq (sFor (iRng (vQ (qC (.int 1))) (vVar 0)) (aName 2)
    (sSeq (sSet 3 (oV (oLst qNo)))
      (sSeq (sFor (iSeq (vVar 1)) (aName 4)
      (sDrop (vLm lmExtend 3 (aFz (vLc [5] (iRng (vQ (qC (.int 1))) (oV (o2 dAdd (oQ (o2 dMin2 (qVar 2) (oQ (o2 dSub (qVar 0) (qVar 2))))) (qC (.int 1))))) (aName 5) bYes (oV (o2 dAdd (qVar 4) (oQ (oLst (qAnd (qVar 5) qNo)))))) aNo))))
      (sSet 1 (vVar 3)))))
    (sRet (vMove 1))))
def m__law_plans : List S → FR := fnSem 6 1 [] b__law_plans
def b_law : TSt :=
    (sSeq (sSet 1 (vCall [] (fills [] m__law_pool) (aFz (vVar 0) aNo)))
    (sSeq (sSet 2 (v2 dAdd (vQ (qC (.int 2))) (vCall [0] (fills [] m__law_draw) (aSl 1 (aFz (vQ (qC (.int 5))) aNo)))))
    (sSeq (sSet 3 (vCall [0] (fills [] m__law_pick) (aSl 1 (aFz (oV (oLst (qAnd (oQ (oTup (qAnd (qC (.int 1)) (qAnd (qC (.int 2)) qNo)))) (qAnd (oQ (oTup (qAnd (qC (.int 1)) (qAnd (qC (.int 3)) qNo)))) (qAnd (oQ (oTup (qAnd (qC (.int 2)) (qAnd (qC (.int 3)) qNo)))) (qAnd (oQ (oTup (qAnd (qC (.int 2)) (qAnd (qC (.int 5)) qNo)))) (qAnd (oQ (oTup (qAnd (qC (.int 3)) (qAnd (qC (.int 4)) qNo)))) qNo))))))) aNo))))
    (sSeq (sSet 4 (vCall [] (fills [] m_best) (aFz (vVar 2) (aFz (vVar 3) aNo))))
    (sSeq (sIf (bOr (bC (oV (o2 dNe (oQ (o1 dLen (qVar 4))) (oQ (o2 dSub (qVar 2) (qC (.int 1))))))) (bC (v2 dGt (v1 dLen (vLc [11] (iRng (vQ (qC (.int 1))) (vVar 2)) (aName 11) (bNot (bC (oV (oCh dLe dLe (qC (.int 1)) (oQ (o2 dSub1 (qVar 4) (oQ (o2 dSub (qVar 11) (qC (.int 1)))))) (oQ (o2 dMin2 (qVar 11) (oQ (o2 dSub (qVar 2) (qVar 11))))))))) (vVar 11))) (vQ (qC (.int 0))))))
    (sRet (vQ (qC (.bl false))))
    sPass)
    (sSeq (sSet 5 (vCall [] (fills [] m_chances) (aFz (vVar 2) (aFz (oV (o1 dList (qVar 4))) (aFz (vVar 3) aNo)))))
    (sSeq (sIf (bOr (bNot (bV (vCall [] (fills [] m__law_is_plan) (aFz (vVar 2) (aFz (vVar 4) (aFz (vVar 3) (aFz (vVar 5) aNo))))))) (bOr (bC (v1 (dIsN true) (vCall [] (fills [] m__law_better) (aFz (vVar 2) (aFz (vVar 3) (aFz (vVar 5) aNo)))))) (bC (v2 (dIsB true) (vCall [] (fills [] m_judge_best) (aFz (vVar 2) (aFz (oV (o1 dList (qVar 4))) (aFz (vVar 3) (aFz (oV (o1 dList (qVar 5))) aNo))))) (vQ (qC (.bl true)))))))
    (sRet (vQ (qC (.bl false))))
    sPass)
    (sSeq (sSet 6 (vIf (bC (oV (o2 dLt (qVar 2) (qC (.int 6))))) (vCall [] (fills [] m__law_plans) (aFz (vVar 2) aNo)) (vLc [8] (iRng0 (vQ (qC (.int 6)))) (aName 8) bYes (vCall [0] (fills [] m__law_plan) (aSl 1 (aFz (vVar 2) aNo))))))
    (sSeq (sFor (iSeq (oV (oCut (qVar 6) pNo (pSo (qC (.int 12)))))) (aName 7)
    (sSeq (sSet 9 (vCall [] (fills [] m_chances) (aFz (vVar 2) (aFz (oV (o1 dList (qVar 7))) (aFz (vVar 3) aNo)))))
      (sSeq (sIf (bC (v2 dGt (v1 dLen (vLc [11] (iRng0 (oV (o2 dAdd (qVar 2) (qC (.int 1))))) (aName 11) (bV (vCall [] (fills [] m__law_less) (aFz (oV (o2 dSub1 (qVar 5) (qVar 11))) (aFz (oV (o2 dSub1 (qVar 9) (qVar 11))) aNo)))) (vVar 11))) (vQ (qC (.int 0)))))
      (sRet (vQ (qC (.bl false))))
      sPass)
      (sSeq (sIf (bNot (bV (vCall [] (fills [] (m__law_same 8)) (aFz (vCall [] (fills [] m_better) (aFz (vVar 2) (aFz (vVar 3) (aFz (oV (o1 dList (qVar 9))) aNo)))) (aFz (vCall [] (fills [] m__law_better) (aFz (vVar 2) (aFz (vVar 3) (aFz (vVar 9) aNo)))) aNo)))))
      (sRet (vQ (qC (.bl false))))
      sPass)
      (sIf (bNot (bV (vCall [] (fills [] (m__law_same 8)) (aFz (vCall [] (fills [] m_judge_best) (aFz (vVar 2) (aFz (oV (o1 dList (qVar 7))) (aFz (vVar 3) (aFz (oV (o1 dList (qVar 9))) aNo))))) (aFz (oV (o2 dEq (qVar 9) (qVar 5))) aNo)))))
      (sRet (vQ (qC (.bl false))))
      sPass)))))
    (sSeq (sFor (iRng0 (vQ (qC (.int 3)))) (aName 8)
    (sSeq (sSet 7 (vCall [0] (fills [] m__law_plan) (aSl 1 (aFz (vVar 2) aNo))))
      (sSeq (sSet 9 (vCall [0] (fills [] m__law_pick) (aSl 1 (aFz (vLst (aFz (vVar 5) (aFz (vLc [11] (iRng0 (oV (o2 dAdd (qVar 2) (qC (.int 1))))) (aName 11) bYes (vCall [] (fills [] m__law_part) (aFz (vVar 11) (aFz (vVar 2) aNo)))) aNo))) aNo))))
      (sSeq (sSet 10 (vAnd (vCall [] (fills [] m__law_is_plan) (aFz (vVar 2) (aFz (vVar 7) (aFz (vVar 3) (aFz (vVar 9) aNo))))) (v1 (dIsN false) (vCall [] (fills [] m__law_better) (aFz (vVar 2) (aFz (vVar 3) (aFz (vVar 9) aNo)))))))
      (sIf (bNot (bV (vCall [] (fills [] (m__law_same 8)) (aFz (vCall [] (fills [] m_judge_best) (aFz (vVar 2) (aFz (oV (o1 dList (qVar 7))) (aFz (vVar 3) (aFz (oV (o1 dList (qVar 9))) aNo))))) (aFz (vVar 10) aNo)))))
      (sRet (vQ (qC (.bl false))))
      sPass)))))
    (sSeq (sIf (bAnd (bNot (bV (vCall [] (fills [] m__law_less) (aFz (oV (oTup (qAnd (qC (.int 1)) (qAnd (qC (.int 2)) qNo)))) (aFz (vVar 3) aNo))))) (bC (v2 dNe (vCall [] (fills [] m_chances) (aFz (vVar 2) (aFz (vCall [] (fills [] m_bold) (aFz (vVar 2) aNo)) (aFz (vVar 3) aNo)))) (vVar 5))))
    (sRet (vQ (qC (.bl false))))
    sPass)
    (sRet (vOrB (vCall [] (fills [] m__law_less) (aFz (vVar 3) (aFz (oV (oTup (qAnd (qC (.int 1)) (qAnd (qC (.int 2)) qNo)))) aNo))) (v2 dEq (vCall [] (fills [] m_chances) (aFz (vVar 2) (aFz (vCall [] (fills [] m_timid) (aFz (vVar 2) aNo)) (aFz (vVar 3) aNo)))) (vVar 5)))))))))))))))
def m_law : List S → FR := fnSem 12 1 [] b_law
end
end K61
namespace K61
open PySem PySem.Spec PyProof.Rows L2 VS

def top (i : Nat) : Stmt := PySem.Challenge.pw_mixworths_k61_whole_best_plans.main.body.getD i (.Pass ⟨0, 0, 0, 0⟩)
/-- what the names of the text stand for -/
structure Gt (K : PySem.W.Frag) (mg : Str → Option Value) : Prop where
  g_InvalidNumber : ExK K mg "InvalidNumber"
  g_InvalidPaper : ExK K mg "InvalidPaper"
  g_MOST_lines : ∃ t, mg "MOST_lines" = some (.int 40 t)
  g_MOST_ruin : ∃ t, mg "MOST_ruin" = some (.int 20 t)
  g_TooMany : ExK K mg "TooMany"
  g_abs : mg "abs" = none
  g_bool : mg "bool" = none
  g_int : mg "int" = none
  g_isinstance : mg "isinstance" = none
  g_len : mg "len" = none
  g_list : mg "list" = none
  g_min : mg "min" = none
  g_range : mg "range" = none
  g_str : mg "str" = none
  g_tuple : mg "tuple" = none
section
variable {P : Program} {w : World} {K : PySem.W.Frag} {mg : Str → Option Value} {base : Heap} {f : Addr} {fd : FuncData}
theorem sc_common : FnScope ["one", "other"] ["one", "other"] (defScope (top 6)) := ⟨rfl, rfl, rfl, by decide +kernel, rfl, by decide +kernel, by decide +kernel⟩
theorem ok_common (F : FunD K "common" "common" (defArgs (top 6)) (defBody (top 6)) (defScope (top 6)) [] [] f fd) (G : Gt K mg) : FnOk P w K mg base (L2N.CX P w) (0 + 1) f fd ["one", "other"] (spOf (gB K mg) 2 [] m_common) :=
  fn_by (b_common) F sc_common rfl rfl rfl (by decide) fun cdv A outer s H E τ H0 vs hr tk pa =>
    (ss_cons (s_while 20000 pa (b_cmp r_gt d_gt (q_var (pe_var (i := 1) rfl (Or.inl (by kernel_rfl)))) q_int)
    (ss_one (s_par (i := 0) (j := 1) rfl sc_common.nd rfl rfl (by decide) rfl rfl (a_fz (v_var (pe_var (i := 1) rfl (Or.inl (by kernel_rfl)))) (a_fz (v_o (o_bin r_mod d_mod (q_var (pe_var (i := 0) rfl (Or.inl (by kernel_rfl)))) (q_var (pe_var (i := 1) rfl (Or.inl (by kernel_rfl)))))) a_no)) (by kernel_rfl))))
    (ss_one (s_ret (v_var (pe_var (i := 0) rfl (Or.inl (by kernel_rfl)))))))
theorem sc_part : FnScope ["n", "d", "shared"] ["n", "d"] (defScope (top 7)) := ⟨rfl, rfl, rfl, by decide +kernel, rfl, by decide +kernel, by decide +kernel⟩
theorem ok_part (F : FunD K "part" "part" (defArgs (top 7)) (defBody (top 7)) (defScope (top 7)) [] [] f fd) (G : Gt K mg) (k_common : Kn P w K mg base "common" 1 2 [] [] m_common) : FnOk P w K mg base (L2N.CX P w) (1 + 1) f fd ["n", "d"] (spOf (gB K mg) 2 [] m_part) :=
  fn_by (b_part) F sc_part rfl rfl rfl (by decide) fun cdv A outer s H E τ H0 vs hr tk pa =>
    (ss_cons (s_if ((w_or (b_q (q_o (o_isi (T := "bool") (by decide) G.g_isinstance rfl (by exact rfl) G.g_bool rfl (by exact rfl) (q_var (pe_var (i := 0) rfl (Or.inl (by kernel_rfl))))))) (w_or (b_q (q_o (o_isi (T := "bool") (by decide) G.g_isinstance rfl (by exact rfl) G.g_bool rfl (by exact rfl) (q_var (pe_var (i := 1) rfl (Or.inl (by kernel_rfl))))))) (w_or (b_not (b_q (q_o (o_isi (T := "int") (by decide) G.g_isinstance rfl (by exact rfl) G.g_int rfl (by exact rfl) (q_var (pe_var (i := 0) rfl (Or.inl (by kernel_rfl)))))))) (w_or (b_not (b_q (q_o (o_isi (T := "int") (by decide) G.g_isinstance rfl (by exact rfl) G.g_int rfl (by exact rfl) (q_var (pe_var (i := 1) rfl (Or.inl (by kernel_rfl)))))))) (w_or1 (b_cmp r_lt d_lt (q_var (pe_var (i := 1) rfl (Or.inl (by kernel_rfl)))) q_int))))))).pt
    (ss_one (s_raise rfl tk G.g_InvalidNumber (by exact rfl)))
    ss_nil)
    (ss_cons (s_set (i := 2) sc_part.nd rfl (Or.inl (by kernel_rfl)) (v_call k_common (hr.mono (by decide)) tk (by exact rfl) (a_fz (v_o (o_b1 call_abs d_abs G.g_abs rfl (by exact rfl) (q_var (pe_var (i := 0) rfl (Or.inl (by kernel_rfl)))))) (a_fz (v_var (pe_var (i := 1) rfl (Or.inl (by kernel_rfl)))) a_no))))
    (ss_one (s_ret (v_o (o_tup (aq_and (q_o (o_bin r_div d_div (q_var (pe_var (i := 0) rfl (Or.inl (by kernel_rfl)))) (q_var (pe_var (i := 2) rfl (Or.inl (by kernel_rfl)))))) (aq_and (q_o (o_bin r_div d_div (q_var (pe_var (i := 1) rfl (Or.inl (by kernel_rfl)))) (q_var (pe_var (i := 2) rfl (Or.inl (by kernel_rfl)))))) aq_no))))))))
theorem sc_is_part : FnScope ["value", "number"] ["value"] (defScope (top 8)) := ⟨rfl, rfl, rfl, by decide +kernel, rfl, by decide +kernel, by decide +kernel⟩
theorem ok_is_part (F : FunD K "is_part" "is_part" (defArgs (top 8)) (defBody (top 8)) (defScope (top 8)) [] [] f fd) (G : Gt K mg) (k_common : Kn P w K mg base "common" 1 2 [] [] m_common) : FnOk P w K mg base (L2N.CX P w) (1 + 1) f fd ["value"] (spOf (gB K mg) 1 [] m_is_part) :=
  fn_by (b_is_part) F sc_is_part rfl rfl rfl (by decide) fun cdv A outer s H E τ H0 vs hr tk pa =>
    (ss_cons (s_if ((w_or (b_not (b_q (q_o (o_isi (T := "tuple") (by decide) G.g_isinstance rfl (by exact rfl) G.g_tuple rfl (by exact rfl) (q_var (pe_var (i := 0) rfl (Or.inl (by kernel_rfl)))))))) (w_or1 (b_cmp (op_neD (hu_of1 hr)) d_ne (q_o (o_b1 r_len d_len G.g_len rfl (by exact rfl) (q_var (pe_var (i := 0) rfl (Or.inl (by kernel_rfl)))))) q_int)))).pt
    (ss_one (s_ret (v_q q_bl)))
    ss_nil)
    (ss_cons (s_for pa rfl (i_seq (v_var (pe_var (i := 0) rfl (Or.inl (by kernel_rfl))))) (g_name sc_is_part.nd rfl (Or.inl (by kernel_rfl)))
    (ss_one (s_if ((w_or (b_q (q_o (o_isi (T := "bool") (by decide) G.g_isinstance rfl (by exact rfl) G.g_bool rfl (by exact rfl) (q_var (pe_var (i := 1) rfl (Or.inl (by kernel_rfl))))))) (w_or1 (b_not (b_q (q_o (o_isi (T := "int") (by decide) G.g_isinstance rfl (by exact rfl) G.g_int rfl (by exact rfl) (q_var (pe_var (i := 1) rfl (Or.inl (by kernel_rfl))))))))))).pt
      (ss_one (s_ret (v_q q_bl)))
      ss_nil)))
    (ss_one (s_ret (v_and (v_o (o_cmp r_ge d_ge (q_o (o_ix (q_var (pe_var (i := 0) rfl (Or.inl (by kernel_rfl)))) q_int (hu_of hr))) q_int)) (v_one (v_cmp (op_eqD (hu_of1 hr)) d_eq (v_call k_common (hr.mono (by decide)) tk (by exact rfl) (a_fz (v_o (o_b1 call_abs d_abs G.g_abs rfl (by exact rfl) (q_o (o_ix (q_var (pe_var (i := 0) rfl (Or.inl (by kernel_rfl)))) q_int (hu_of hr))))) (a_fz (v_o (o_ix (q_var (pe_var (i := 0) rfl (Or.inl (by kernel_rfl)))) q_int (hu_of hr))) a_no))) (v_q q_int))))))))
theorem sc_plus : FnScope ["one", "other"] ["one", "other"] (defScope (top 9)) := ⟨rfl, rfl, rfl, by decide +kernel, rfl, by decide +kernel, by decide +kernel⟩
theorem ok_plus (F : FunD K "plus" "plus" (defArgs (top 9)) (defBody (top 9)) (defScope (top 9)) [] [] f fd) (G : Gt K mg) (k_part : Kn P w K mg base "part" 2 2 [] [] m_part) : FnOk P w K mg base (L2N.CX P w) (2 + 1) f fd ["one", "other"] (spOf (gB K mg) 2 [] m_plus) :=
  fn_by (b_plus) F sc_plus rfl rfl rfl (by decide) fun cdv A outer s H E τ H0 vs hr tk pa =>
    (ss_one (s_ret (v_call k_part (hr.mono (by decide)) tk (by exact rfl) (a_fz (v_o (o_bin r_add d_add (q_o (o_bin r_mul d_mul (q_o (o_ix (q_var (pe_var (i := 0) rfl (Or.inl (by kernel_rfl)))) q_int (hu_of hr))) (q_o (o_ix (q_var (pe_var (i := 1) rfl (Or.inl (by kernel_rfl)))) q_int (hu_of hr))))) (q_o (o_bin r_mul d_mul (q_o (o_ix (q_var (pe_var (i := 1) rfl (Or.inl (by kernel_rfl)))) q_int (hu_of hr))) (q_o (o_ix (q_var (pe_var (i := 0) rfl (Or.inl (by kernel_rfl)))) q_int (hu_of hr))))))) (a_fz (v_o (o_bin r_mul d_mul (q_o (o_ix (q_var (pe_var (i := 0) rfl (Or.inl (by kernel_rfl)))) q_int (hu_of hr))) (q_o (o_ix (q_var (pe_var (i := 1) rfl (Or.inl (by kernel_rfl)))) q_int (hu_of hr))))) a_no)))))
theorem sc_minus : FnScope ["one", "other"] ["one", "other"] (defScope (top 10)) := ⟨rfl, rfl, rfl, by decide +kernel, rfl, by decide +kernel, by decide +kernel⟩
theorem ok_minus (F : FunD K "minus" "minus" (defArgs (top 10)) (defBody (top 10)) (defScope (top 10)) [] [] f fd) (G : Gt K mg) (k_part : Kn P w K mg base "part" 2 2 [] [] m_part) : FnOk P w K mg base (L2N.CX P w) (2 + 1) f fd ["one", "other"] (spOf (gB K mg) 2 [] m_minus) :=
  fn_by (b_minus) F sc_minus rfl rfl rfl (by decide) fun cdv A outer s H E τ H0 vs hr tk pa =>
    (ss_one (s_ret (v_call k_part (hr.mono (by decide)) tk (by exact rfl) (a_fz (v_o (o_bin op_sub d_sub (q_o (o_bin r_mul d_mul (q_o (o_ix (q_var (pe_var (i := 0) rfl (Or.inl (by kernel_rfl)))) q_int (hu_of hr))) (q_o (o_ix (q_var (pe_var (i := 1) rfl (Or.inl (by kernel_rfl)))) q_int (hu_of hr))))) (q_o (o_bin r_mul d_mul (q_o (o_ix (q_var (pe_var (i := 1) rfl (Or.inl (by kernel_rfl)))) q_int (hu_of hr))) (q_o (o_ix (q_var (pe_var (i := 0) rfl (Or.inl (by kernel_rfl)))) q_int (hu_of hr))))))) (a_fz (v_o (o_bin r_mul d_mul (q_o (o_ix (q_var (pe_var (i := 0) rfl (Or.inl (by kernel_rfl)))) q_int (hu_of hr))) (q_o (o_ix (q_var (pe_var (i := 1) rfl (Or.inl (by kernel_rfl)))) q_int (hu_of hr))))) a_no)))))
theorem sc_times : FnScope ["one", "other"] ["one", "other"] (defScope (top 11)) := ⟨rfl, rfl, rfl, by decide +kernel, rfl, by decide +kernel, by decide +kernel⟩
theorem ok_times (F : FunD K "times" "times" (defArgs (top 11)) (defBody (top 11)) (defScope (top 11)) [] [] f fd) (G : Gt K mg) (k_part : Kn P w K mg base "part" 2 2 [] [] m_part) : FnOk P w K mg base (L2N.CX P w) (2 + 1) f fd ["one", "other"] (spOf (gB K mg) 2 [] m_times) :=
  fn_by (b_times) F sc_times rfl rfl rfl (by decide) fun cdv A outer s H E τ H0 vs hr tk pa =>
    (ss_one (s_ret (v_call k_part (hr.mono (by decide)) tk (by exact rfl) (a_fz (v_o (o_bin r_mul d_mul (q_o (o_ix (q_var (pe_var (i := 0) rfl (Or.inl (by kernel_rfl)))) q_int (hu_of hr))) (q_o (o_ix (q_var (pe_var (i := 1) rfl (Or.inl (by kernel_rfl)))) q_int (hu_of hr))))) (a_fz (v_o (o_bin r_mul d_mul (q_o (o_ix (q_var (pe_var (i := 0) rfl (Or.inl (by kernel_rfl)))) q_int (hu_of hr))) (q_o (o_ix (q_var (pe_var (i := 1) rfl (Or.inl (by kernel_rfl)))) q_int (hu_of hr))))) a_no)))))
theorem sc_is_less : FnScope ["one", "other"] ["one", "other"] (defScope (top 12)) := ⟨rfl, rfl, rfl, by decide +kernel, rfl, by decide +kernel, by decide +kernel⟩
theorem ok_is_less (F : FunD K "is_less" "is_less" (defArgs (top 12)) (defBody (top 12)) (defScope (top 12)) [] [] f fd) (G : Gt K mg) : FnOk P w K mg base (L2N.CX P w) (0 + 1) f fd ["one", "other"] (spOf (gB K mg) 2 [] m_is_less) :=
  fn_by (b_is_less) F sc_is_less rfl rfl rfl (by decide) fun cdv A outer s H E τ H0 vs hr tk pa =>
    (ss_one (s_ret (v_o (o_cmp r_lt d_lt (q_o (o_bin r_mul d_mul (q_o (o_ix (q_var (pe_var (i := 0) rfl (Or.inl (by kernel_rfl)))) q_int (hu_of hr))) (q_o (o_ix (q_var (pe_var (i := 1) rfl (Or.inl (by kernel_rfl)))) q_int (hu_of hr))))) (q_o (o_bin r_mul d_mul (q_o (o_ix (q_var (pe_var (i := 1) rfl (Or.inl (by kernel_rfl)))) q_int (hu_of hr))) (q_o (o_ix (q_var (pe_var (i := 0) rfl (Or.inl (by kernel_rfl)))) q_int (hu_of hr)))))))))
theorem sc_is_number : FnScope ["value", "least", "most"] ["value", "least", "most"] (defScope (top 15)) := ⟨rfl, rfl, rfl, by decide +kernel, rfl, by decide +kernel, by decide +kernel⟩
theorem ok_is_number (F : FunD K "is_number" "is_number" (defArgs (top 15)) (defBody (top 15)) (defScope (top 15)) [V.int 0, V.int 1000000] [] f fd) (G : Gt K mg) : FnOk P w K mg base (L2N.CX P w) (0 + 1) f fd ["value", "least", "most"] (spOf (gB K mg) 3 [] m_is_number) :=
  fn_by (b_is_number) F sc_is_number rfl rfl rfl (by decide) fun cdv A outer s H E τ H0 vs hr tk pa =>
    (ss_cons (s_if ((w_or (b_q (q_o (o_isi (T := "bool") (by decide) G.g_isinstance rfl (by exact rfl) G.g_bool rfl (by exact rfl) (q_var (pe_var (i := 0) rfl (Or.inl (by kernel_rfl))))))) (w_or1 (b_not (b_q (q_o (o_isi (T := "int") (by decide) G.g_isinstance rfl (by exact rfl) G.g_int rfl (by exact rfl) (q_var (pe_var (i := 0) rfl (Or.inl (by kernel_rfl))))))))))).pt
    (ss_one (s_ret (v_q q_bl)))
    ss_nil)
    (ss_one (s_ret (v_o (o_ch r_le r_le d_le d_le (q_var (pe_var (i := 1) rfl (Or.inl (by kernel_rfl)))) (q_var (pe_var (i := 0) rfl (Or.inl (by kernel_rfl)))) (q_var (pe_var (i := 2) rfl (Or.inl (by kernel_rfl)))))))))
theorem sc_checked_number : FnScope ["value", "least", "most"] ["value", "least", "most"] (defScope (top 16)) := ⟨rfl, rfl, rfl, by decide +kernel, rfl, by decide +kernel, by decide +kernel⟩
theorem ok_checked_number (F : FunD K "checked_number" "checked_number" (defArgs (top 16)) (defBody (top 16)) (defScope (top 16)) [V.int 0, V.int 1000000] [] f fd) (G : Gt K mg) (k_is_number : Kn P w K mg base "is_number" 1 3 [] [] m_is_number) : FnOk P w K mg base (L2N.CX P w) (1 + 1) f fd ["value", "least", "most"] (spOf (gB K mg) 3 [] m_checked_number) :=
  fn_by (b_checked_number) F sc_checked_number rfl rfl rfl (by decide) fun cdv A outer s H E τ H0 vs hr tk pa =>
    (ss_cons (s_if (b_not (b_v (v_call k_is_number (hr.mono (by decide)) tk (by exact rfl) (a_fz (v_var (pe_var (i := 0) rfl (Or.inl (by kernel_rfl)))) (a_fz (v_var (pe_var (i := 1) rfl (Or.inl (by kernel_rfl)))) (a_fz (v_var (pe_var (i := 2) rfl (Or.inl (by kernel_rfl)))) a_no))))))
    (ss_one (s_raise1 rfl tk G.g_InvalidNumber (by exact rfl) (v_o (o_bin r_add d_add (q_o (o_bin r_add d_add (q_o (o_bin r_add d_add q_str (q_o (o_t1 r_str d_str G.g_str rfl (by exact rfl) (q_var (pe_var (i := 1) rfl (Or.inl (by kernel_rfl)))))))) q_str)) (q_o (o_t1 r_str d_str G.g_str rfl (by exact rfl) (q_var (pe_var (i := 2) rfl (Or.inl (by kernel_rfl))))))))))
    ss_nil)
    (ss_one (s_ret (v_var (pe_var (i := 0) rfl (Or.inl (by kernel_rfl)))))))
theorem sc_checked_chance : FnScope ["value"] ["value"] (defScope (top 18)) := ⟨rfl, rfl, rfl, by decide +kernel, rfl, by decide +kernel, by decide +kernel⟩
theorem ok_checked_chance (F : FunD K "checked_chance" "checked_chance" (defArgs (top 18)) (defBody (top 18)) (defScope (top 18)) [] [] f fd) (G : Gt K mg) (k_is_part : Kn P w K mg base "is_part" 2 1 [] [] m_is_part) : FnOk P w K mg base (L2N.CX P w) (2 + 1) f fd ["value"] (spOf (gB K mg) 1 [] m_checked_chance) :=
  fn_by (b_checked_chance) F sc_checked_chance rfl rfl rfl (by decide) fun cdv A outer s H E τ H0 vs hr tk pa =>
    (ss_cons (s_if ((w_or (b_not (b_v (v_call k_is_part (hr.mono (by decide)) tk (by exact rfl) (a_fz (v_var (pe_var (i := 0) rfl (Or.inl (by kernel_rfl)))) a_no)))) (w_or (b_cmp r_lt d_lt (q_o (o_ix (q_var (pe_var (i := 0) rfl (Or.inl (by kernel_rfl)))) q_int (hu_of hr))) q_int) (w_or1 (b_cmp r_gt d_gt (q_o (o_ix (q_var (pe_var (i := 0) rfl (Or.inl (by kernel_rfl)))) q_int (hu_of hr))) (q_o (o_ix (q_var (pe_var (i := 0) rfl (Or.inl (by kernel_rfl)))) q_int (hu_of hr)))))))).pt
    (ss_one (s_raise rfl tk G.g_InvalidPaper (by exact rfl)))
    ss_nil)
    (ss_one (s_ret (v_var (pe_var (i := 0) rfl (Or.inl (by kernel_rfl)))))))
theorem sc_rest : FnScope ["value"] ["value"] (defScope (top 19)) := ⟨rfl, rfl, rfl, by decide +kernel, rfl, by decide +kernel, by decide +kernel⟩
theorem ok_rest (F : FunD K "rest" "rest" (defArgs (top 19)) (defBody (top 19)) (defScope (top 19)) [] [] f fd) (G : Gt K mg) (k_checked_chance : Kn P w K mg base "checked_chance" 3 1 [] [] m_checked_chance) (k_minus : Kn P w K mg base "minus" 3 2 [] [] m_minus) : FnOk P w K mg base (L2N.CX P w) (3 + 1) f fd ["value"] (spOf (gB K mg) 1 [] m_rest) :=
  fn_by (b_rest) F sc_rest rfl rfl rfl (by decide) fun cdv A outer s H E τ H0 vs hr tk pa =>
    (ss_one (s_ret (v_call k_minus (hr.mono (by decide)) tk (by exact rfl) (a_fz (v_o (o_tup (aq_and q_int (aq_and q_int aq_no)))) (a_fz (v_call k_checked_chance (hr.mono (by decide)) tk (by exact rfl) (a_fz (v_var (pe_var (i := 0) rfl (Or.inl (by kernel_rfl)))) a_no)) a_no)))))
theorem sc_checked_lines : FnScope ["lines", "line", "value"] ["lines"] (defScope (top 22)) := ⟨rfl, rfl, rfl, by decide +kernel, rfl, by decide +kernel, by decide +kernel⟩
theorem ok_checked_lines (F : FunD K "checked_lines" "checked_lines" (defArgs (top 22)) (defBody (top 22)) (defScope (top 22)) [] [] f fd) (G : Gt K mg) (k_is_part : Kn P w K mg base "is_part" 2 1 [] [] m_is_part) : FnOk P w K mg base (L2N.CX P w) (2 + 1) f fd ["lines"] (spOf (gB K mg) 1 [] m_checked_lines) :=
  fn_by (b_checked_lines) F sc_checked_lines rfl rfl rfl (by decide) fun cdv A outer s H E τ H0 vs hr tk pa =>
    (ss_cons (s_if (b_cmp r_gt d_gt (q_o (o_b1 r_len d_len G.g_len rfl (by exact rfl) (q_var (pe_var (i := 0) rfl (Or.inl (by kernel_rfl)))))) (q_glI (by exact rfl) G.g_MOST_lines))
    (ss_one (s_raise rfl tk G.g_TooMany (by exact rfl)))
    ss_nil)
    (ss_cons (s_for pa rfl (i_seq (v_var (pe_var (i := 0) rfl (Or.inl (by kernel_rfl))))) (g_name sc_checked_lines.nd rfl (Or.inl (by kernel_rfl)))
    (ss_one (s_if ((w_or (b_cmp (op_neD (hu_of1 hr)) d_ne (q_o (o_b1 r_len d_len G.g_len rfl (by exact rfl) (q_var (pe_var (i := 1) rfl (Or.inl (by kernel_rfl)))))) (q_o (o_bin r_add d_add (q_o (o_b1 r_len d_len G.g_len rfl (by exact rfl) (q_var (pe_var (i := 0) rfl (Or.inl (by kernel_rfl)))))) q_int))) (w_or1 (b_v (v_lc rfl sc_checked_lines.nd (i_seq (v_var (pe_var (i := 1) rfl (Or.inl (by kernel_rfl))))) (blkOk_by (own := [("value", 2)]) (by kernel_rfl)) (fun _ _ _ _ _ _ _ => (g_name sc_checked_lines.nd rfl (Or.inl (by kernel_rfl)))) (fun _ _ _ _ _ _ _ => (ts_one (b_not (b_v (v_call k_is_part (hr.mono (by decide)) takes_no (by exact rfl) (a_fz (v_var (pe_var (i := 2) rfl (Or.inl (by kernel_rfl)))) a_no)))))) (fun _ _ _ _ _ _ _ => (v_var (pe_var (i := 2) rfl (Or.inl (by kernel_rfl)))))))))).pt
      (ss_one (s_raise rfl tk G.g_InvalidPaper (by exact rfl)))
      ss_nil)))
    (ss_one (s_ret (v_lc rfl sc_checked_lines.nd (i_seq (v_var (pe_var (i := 0) rfl (Or.inl (by kernel_rfl))))) (blkOk_by (own := [("line", 1)]) (by kernel_rfl)) (fun _ _ _ _ _ _ _ => (g_name sc_checked_lines.nd rfl (Or.inl (by kernel_rfl)))) (fun _ _ _ _ _ _ _ => ts_nil) (fun _ _ _ _ _ _ _ => (v_o (o_t1 call_list_of d_list G.g_list rfl (by exact rfl) (q_var (pe_var (i := 1) rfl (Or.inl (by kernel_rfl))))))))))))
theorem sc_over : FnScope ["one", "other"] ["one", "other"] (defScope (top 23)) := ⟨rfl, rfl, rfl, by decide +kernel, rfl, by decide +kernel, by decide +kernel⟩
theorem ok_over (F : FunD K "over" "over" (defArgs (top 23)) (defBody (top 23)) (defScope (top 23)) [] [] f fd) (G : Gt K mg) (k_part : Kn P w K mg base "part" 2 2 [] [] m_part) : FnOk P w K mg base (L2N.CX P w) (2 + 1) f fd ["one", "other"] (spOf (gB K mg) 2 [] m_over) :=
  fn_by (b_over) F sc_over rfl rfl rfl (by decide) fun cdv A outer s H E τ H0 vs hr tk pa =>
    (ss_cons (s_if (b_cmp (op_eqD (hu_of1 hr)) d_eq (q_o (o_ix (q_var (pe_var (i := 1) rfl (Or.inl (by kernel_rfl)))) q_int (hu_of hr))) q_int)
    (ss_one (s_raise rfl tk G.g_InvalidPaper (by exact rfl)))
    ss_nil)
    (ss_cons (s_if (b_cmp r_lt d_lt (q_o (o_ix (q_var (pe_var (i := 1) rfl (Or.inl (by kernel_rfl)))) q_int (hu_of hr))) q_int)
    (ss_one (s_ret (v_call k_part (hr.mono (by decide)) tk (by exact rfl) (a_fz (v_o (o_bin r_mul d_mul (q_o (o_un un_neg d_neg (q_o (o_ix (q_var (pe_var (i := 0) rfl (Or.inl (by kernel_rfl)))) q_int (hu_of hr))))) (q_o (o_ix (q_var (pe_var (i := 1) rfl (Or.inl (by kernel_rfl)))) q_int (hu_of hr))))) (a_fz (v_o (o_bin r_mul d_mul (q_o (o_ix (q_var (pe_var (i := 0) rfl (Or.inl (by kernel_rfl)))) q_int (hu_of hr))) (q_o (o_un un_neg d_neg (q_o (o_ix (q_var (pe_var (i := 1) rfl (Or.inl (by kernel_rfl)))) q_int (hu_of hr))))))) a_no)))))
    ss_nil)
    (ss_one (s_ret (v_call k_part (hr.mono (by decide)) tk (by exact rfl) (a_fz (v_o (o_bin r_mul d_mul (q_o (o_ix (q_var (pe_var (i := 0) rfl (Or.inl (by kernel_rfl)))) q_int (hu_of hr))) (q_o (o_ix (q_var (pe_var (i := 1) rfl (Or.inl (by kernel_rfl)))) q_int (hu_of hr))))) (a_fz (v_o (o_bin r_mul d_mul (q_o (o_ix (q_var (pe_var (i := 0) rfl (Or.inl (by kernel_rfl)))) q_int (hu_of hr))) (q_o (o_ix (q_var (pe_var (i := 1) rfl (Or.inl (by kernel_rfl)))) q_int (hu_of hr))))) a_no)))))))
theorem sc_solve : FnScope ["lines", "rows", "size", "at", "place", "taken", "index", "row", "value", "factor", "k"] ["lines"] (defScope (top 24)) := ⟨rfl, rfl, rfl, by decide +kernel, rfl, by decide +kernel, by decide +kernel⟩
theorem ok_solve (F : FunD K "solve" "solve" (defArgs (top 24)) (defBody (top 24)) (defScope (top 24)) [] [] f fd) (G : Gt K mg) (k_checked_lines : Kn P w K mg base "checked_lines" 3 1 [] [] m_checked_lines) (k_minus : Kn P w K mg base "minus" 3 2 [] [] m_minus) (k_over : Kn P w K mg base "over" 3 2 [] [] m_over) (k_times : Kn P w K mg base "times" 3 2 [] [] m_times) : FnOk P w K mg base (L2N.CX P w) (3 + 1) f fd ["lines"] (spOf (gB K mg) 1 [] m_solve) :=
  fn_by (b_solve) F sc_solve rfl rfl rfl (by decide) fun cdv A outer s H E τ H0 vs hr tk pa =>
    (ss_cons (s_set (i := 1) sc_solve.nd rfl (Or.inr (by kernel_rfl)) (v_call k_checked_lines (hr.mono (by decide)) tk (by exact rfl) (a_fz (v_var (pe_var (i := 0) rfl (Or.inl (by kernel_rfl)))) a_no)))
    (ss_cons (s_set (i := 2) sc_solve.nd rfl (Or.inr (by kernel_rfl)) (v_o (o_b1 r_len d_len G.g_len rfl (by exact rfl) (q_var (pe_var (i := 1) rfl (Or.inr (Or.inl (by kernel_rfl))))))))
    (ss_cons (s_for pa rfl (i_rng0 (by exact rfl) G.g_range (v_var (pe_var (i := 2) rfl (Or.inr (Or.inl (by kernel_rfl)))))) (g_name sc_solve.nd rfl (Or.inr (by kernel_rfl)))
    (ss_cons (s_setLc rfl sc_solve.nd rfl rfl (sw_true rfl rfl rfl (by kernel_rfl)) (i_rng (by exact rfl) G.g_range (v_var (pe_var (i := 3) rfl (Or.inr (Or.inl (by kernel_rfl))))) (v_var (pe_var (i := 2) rfl (Or.inr (Or.inl (by kernel_rfl)))))) (blkOk_by (own := [("index", 6)]) (by kernel_rfl)) (fun _ _ _ _ _ _ _ => (g_name sc_solve.nd rfl (Or.inl (by kernel_rfl)))) (fun _ _ _ _ _ _ _ => (ts_one (b_cmp (op_neD (hu_of1 hr)) d_ne (q_o (o_ix (q_o (o_ix (q_o (o_ix (q_var (pe_var (i := 1) rfl (Or.inr (Or.inl (by kernel_rfl))))) (q_var (pe_var (i := 6) rfl (Or.inl (by kernel_rfl)))) (hu_of hr))) (q_var (pe_var (i := 3) rfl (Or.inr (Or.inl (by kernel_rfl))))) (hu_of hr))) q_int (hu_of hr))) q_int))) (fun _ _ _ _ _ _ _ => (v_var (pe_var (i := 6) rfl (Or.inl (by kernel_rfl))))))
      (ss_cons (s_if (b_not (b_q (q_var (pe_var (i := 4) rfl (Or.inl (by kernel_rfl))))))
      (ss_one (s_ret (v_q q_non)))
      ss_nil)
      (ss_cons (s_set (i := 5) sc_solve.nd rfl (Or.inr (by kernel_rfl)) (v_lm lm_popAt PySem.F.slot_list_pop rfl (pe_var (i := 1) rfl (Or.inr (Or.inl (by kernel_rfl)))) (a_fz (v_o (o_ix (q_var (pe_var (i := 4) rfl (Or.inl (by kernel_rfl)))) q_int (hu_of hr))) a_no)))
      (ss_cons (s_set (i := 5) sc_solve.nd rfl (Or.inr (by kernel_rfl)) (v_lc rfl sc_solve.nd (i_seq (v_var (pe_var (i := 5) rfl (Or.inr (Or.inl (by kernel_rfl)))))) (blkOk_by (own := [("value", 8)]) (by kernel_rfl)) (fun _ _ _ _ _ _ _ => (g_name sc_solve.nd rfl (Or.inl (by kernel_rfl)))) (fun _ _ _ _ _ _ _ => ts_nil) (fun _ _ _ _ _ _ _ => (v_call k_over (hr.mono (by decide)) takes_no (by exact rfl) (a_fz (v_var (pe_var (i := 8) rfl (Or.inl (by kernel_rfl)))) (a_fz (v_o (o_ix (q_var (pe_var (i := 5) rfl (Or.inr (Or.inl (by kernel_rfl))))) (q_var (pe_var (i := 3) rfl (Or.inr (Or.inl (by kernel_rfl))))) (hu_of hr))) a_no))))))
      (ss_cons (s_drop (v_lm lm_insert PySem.F.slot_list_insert rfl (pe_var (i := 1) rfl (Or.inr (Or.inl (by kernel_rfl)))) (a_fz (v_var (pe_var (i := 3) rfl (Or.inr (Or.inl (by kernel_rfl))))) (a_fz (v_var (pe_var (i := 5) rfl (Or.inr (Or.inl (by kernel_rfl))))) a_no))))
      (ss_one (s_for pa rfl (i_rng0 (by exact rfl) G.g_range (v_var (pe_var (i := 2) rfl (Or.inr (Or.inl (by kernel_rfl)))))) (g_name sc_solve.nd rfl (Or.inr (by kernel_rfl)))
      (ss_one (s_if ((w_and (b_cmp (op_neD (hu_of1 hr)) d_ne (q_var (pe_var (i := 6) rfl (Or.inr (Or.inl (by kernel_rfl))))) (q_var (pe_var (i := 3) rfl (Or.inr (Or.inl (by kernel_rfl)))))) (w_and1 (b_cmp (op_neD (hu_of1 hr)) d_ne (q_o (o_ix (q_o (o_ix (q_o (o_ix (q_var (pe_var (i := 1) rfl (Or.inr (Or.inl (by kernel_rfl))))) (q_var (pe_var (i := 6) rfl (Or.inr (Or.inl (by kernel_rfl))))) (hu_of hr))) (q_var (pe_var (i := 3) rfl (Or.inr (Or.inl (by kernel_rfl))))) (hu_of hr))) q_int (hu_of hr))) q_int)))).pt
        (ss_cons (s_set (i := 9) sc_solve.nd rfl (Or.inr (by kernel_rfl)) (v_o (o_ix (q_o (o_ix (q_var (pe_var (i := 1) rfl (Or.inr (Or.inl (by kernel_rfl))))) (q_var (pe_var (i := 6) rfl (Or.inr (Or.inl (by kernel_rfl))))) (hu_of hr))) (q_var (pe_var (i := 3) rfl (Or.inr (Or.inl (by kernel_rfl))))) (hu_of hr))))
          (ss_one (s_put (pe_var (i := 1) rfl (Or.inr (Or.inl (by kernel_rfl)))) (q_var (pe_var (i := 6) rfl (Or.inr (Or.inl (by kernel_rfl))))) (v_lc rfl sc_solve.nd (i_rng0 (by exact rfl) G.g_range (v_o (o_bin r_add d_add (q_var (pe_var (i := 2) rfl (Or.inr (Or.inl (by kernel_rfl))))) q_int))) (blkOk_by (own := [("k", 10)]) (by kernel_rfl)) (fun _ _ _ _ _ _ _ => (g_name sc_solve.nd rfl (Or.inl (by kernel_rfl)))) (fun _ _ _ _ _ _ _ => ts_nil) (fun _ _ _ _ _ _ _ => (v_call k_minus (hr.mono (by decide)) takes_no (by exact rfl) (a_fz (v_o (o_ix (q_o (o_ix (q_var (pe_var (i := 1) rfl (Or.inr (Or.inl (by kernel_rfl))))) (q_var (pe_var (i := 6) rfl (Or.inr (Or.inl (by kernel_rfl))))) (hu_of hr))) (q_var (pe_var (i := 10) rfl (Or.inl (by kernel_rfl)))) (hu_of hr))) (a_fz (v_call k_times (hr.mono (by decide)) takes_no (by exact rfl) (a_fz (v_var (pe_var (i := 9) rfl (Or.inr (Or.inl (by kernel_rfl))))) (a_fz (v_o (o_ix (q_var (pe_var (i := 5) rfl (Or.inr (Or.inl (by kernel_rfl))))) (q_var (pe_var (i := 10) rfl (Or.inl (by kernel_rfl)))) (hu_of hr))) a_no))) a_no))))) (hu_of hr))))
        ss_nil))))))))))
    (ss_one (s_ret (v_lc rfl sc_solve.nd (i_seq (v_var (pe_var (i := 1) rfl (Or.inr (Or.inl (by kernel_rfl)))))) (blkOk_by (own := [("row", 7)]) (by kernel_rfl)) (fun _ _ _ _ _ _ _ => (g_name sc_solve.nd rfl (Or.inl (by kernel_rfl)))) (fun _ _ _ _ _ _ _ => ts_nil) (fun _ _ _ _ _ _ _ => (v_o (o_ix (q_var (pe_var (i := 7) rfl (Or.inl (by kernel_rfl)))) (q_var (pe_var (i := 2) rfl (Or.inr (Or.inl (by kernel_rfl))))) (hu_of hr))))))))))
theorem sc_checked_plan : FnScope ["aim", "plan", "have"] ["aim", "plan"] (defScope (top 27)) := ⟨rfl, rfl, rfl, by decide +kernel, rfl, by decide +kernel, by decide +kernel⟩
theorem ok_checked_plan (F : FunD K "checked_plan" "checked_plan" (defArgs (top 27)) (defBody (top 27)) (defScope (top 27)) [] [] f fd) (G : Gt K mg) (k_checked_number : Kn P w K mg base "checked_number" 2 3 [] [] m_checked_number) (k_is_number : Kn P w K mg base "is_number" 1 3 [] [] m_is_number) : FnOk P w K mg base (L2N.CX P w) (2 + 1) f fd ["aim", "plan"] (spOf (gB K mg) 2 [] m_checked_plan) :=
  fn_by (b_checked_plan) F sc_checked_plan rfl rfl rfl (by decide) fun cdv A outer s H E τ H0 vs hr tk pa =>
    (ss_cons (s_drop (v_call k_checked_number (hr.mono (by decide)) tk (by exact rfl) (a_fz (v_var (pe_var (i := 0) rfl (Or.inl (by kernel_rfl)))) (a_fz (v_q q_int) (a_fz (v_q (q_glI (by exact rfl) G.g_MOST_ruin)) a_no)))))
    (ss_cons (s_if (b_cmp (op_neD (hu_of1 hr)) d_ne (q_o (o_b1 r_len d_len G.g_len rfl (by exact rfl) (q_var (pe_var (i := 1) rfl (Or.inl (by kernel_rfl)))))) (q_o (o_bin op_sub d_sub (q_var (pe_var (i := 0) rfl (Or.inl (by kernel_rfl)))) q_int)))
    (ss_one (s_raise rfl tk G.g_InvalidPaper (by exact rfl)))
    ss_nil)
    (ss_cons (s_for pa rfl (i_rng (by exact rfl) G.g_range (v_q q_int) (v_var (pe_var (i := 0) rfl (Or.inl (by kernel_rfl))))) (g_name sc_checked_plan.nd rfl (Or.inl (by kernel_rfl)))
    (ss_one (s_if (b_not (b_v (v_call k_is_number (hr.mono (by decide)) tk (by exact rfl) (a_fz (v_o (o_ix (q_var (pe_var (i := 1) rfl (Or.inl (by kernel_rfl)))) (q_o (o_bin op_sub d_sub (q_var (pe_var (i := 2) rfl (Or.inl (by kernel_rfl)))) q_int)) (hu_of hr))) (a_fz (v_q q_int) (a_fz (v_o (o_b2 (call_min2 rfl) d_min2 G.g_min rfl (by exact rfl) (q_var (pe_var (i := 2) rfl (Or.inl (by kernel_rfl)))) (q_o (o_bin op_sub d_sub (q_var (pe_var (i := 0) rfl (Or.inl (by kernel_rfl)))) (q_var (pe_var (i := 2) rfl (Or.inl (by kernel_rfl)))))))) a_no))))))
      (ss_one (s_raise rfl tk G.g_InvalidPaper (by exact rfl)))
      ss_nil)))
    (ss_one (s_ret (v_o (o_t1 call_list_of d_list G.g_list rfl (by exact rfl) (q_var (pe_var (i := 1) rfl (Or.inl (by kernel_rfl)))))))))))
theorem sc_timid : FnScope ["aim"] ["aim"] (defScope (top 28)) := ⟨rfl, rfl, rfl, by decide +kernel, rfl, by decide +kernel, by decide +kernel⟩
theorem ok_timid (F : FunD K "timid" "timid" (defArgs (top 28)) (defBody (top 28)) (defScope (top 28)) [] [] f fd) (G : Gt K mg) (k_checked_number : Kn P w K mg base "checked_number" 2 3 [] [] m_checked_number) : FnOk P w K mg base (L2N.CX P w) (2 + 1) f fd ["aim"] (spOf (gB K mg) 1 [] m_timid) :=
  fn_by (b_timid) F sc_timid rfl rfl rfl (by decide) fun cdv A outer s H E τ H0 vs hr tk pa =>
    (ss_cons (s_drop (v_call k_checked_number (hr.mono (by decide)) tk (by exact rfl) (a_fz (v_var (pe_var (i := 0) rfl (Or.inl (by kernel_rfl)))) (a_fz (v_q q_int) (a_fz (v_q (q_glI (by exact rfl) G.g_MOST_ruin)) a_no)))))
    (ss_one (s_ret (v_o (o_bin r_mul d_mul (q_o (o_lst (aq_and q_int aq_no))) (q_o (o_bin op_sub d_sub (q_var (pe_var (i := 0) rfl (Or.inl (by kernel_rfl)))) q_int)))))))
theorem sc_bold : FnScope ["aim", "have"] ["aim"] (defScope (top 29)) := ⟨rfl, rfl, rfl, by decide +kernel, rfl, by decide +kernel, by decide +kernel⟩
theorem ok_bold (F : FunD K "bold" "bold" (defArgs (top 29)) (defBody (top 29)) (defScope (top 29)) [] [] f fd) (G : Gt K mg) (k_checked_number : Kn P w K mg base "checked_number" 2 3 [] [] m_checked_number) : FnOk P w K mg base (L2N.CX P w) (2 + 1) f fd ["aim"] (spOf (gB K mg) 1 [] m_bold) :=
  fn_by (b_bold) F sc_bold rfl rfl rfl (by decide) fun cdv A outer s H E τ H0 vs hr tk pa =>
    (ss_cons (s_drop (v_call k_checked_number (hr.mono (by decide)) tk (by exact rfl) (a_fz (v_var (pe_var (i := 0) rfl (Or.inr (Or.inl (by kernel_rfl))))) (a_fz (v_q q_int) (a_fz (v_q (q_glI (by exact rfl) G.g_MOST_ruin)) a_no)))))
    (ss_one (s_ret (v_lc rfl sc_bold.nd (i_rng (by exact rfl) G.g_range (v_q q_int) (v_var (pe_var (i := 0) rfl (Or.inr (Or.inl (by kernel_rfl)))))) (blkOk_by (own := [("have", 1)]) (by kernel_rfl)) (fun _ _ _ _ _ _ _ => (g_name sc_bold.nd rfl (Or.inl (by kernel_rfl)))) (fun _ _ _ _ _ _ _ => ts_nil) (fun _ _ _ _ _ _ _ => (v_o (o_b2 (call_min2 rfl) d_min2 G.g_min rfl (by exact rfl) (q_var (pe_var (i := 1) rfl (Or.inl (by kernel_rfl)))) (q_o (o_bin op_sub d_sub (q_var (pe_var (i := 0) rfl (Or.inr (Or.inl (by kernel_rfl))))) (q_var (pe_var (i := 1) rfl (Or.inl (by kernel_rfl)))))))))))))
theorem sc__inner : FnScope ["chance"] ["chance"] (defScope (top 31)) := ⟨rfl, rfl, rfl, by decide +kernel, rfl, by decide +kernel, by decide +kernel⟩
theorem ok__inner (F : FunD K "_inner" "_inner" (defArgs (top 31)) (defBody (top 31)) (defScope (top 31)) [] [] f fd) (G : Gt K mg) (k_checked_chance : Kn P w K mg base "checked_chance" 3 1 [] [] m_checked_chance) : FnOk P w K mg base (L2N.CX P w) (3 + 1) f fd ["chance"] (spOf (gB K mg) 1 [] m__inner) :=
  fn_by (b__inner) F sc__inner rfl rfl rfl (by decide) fun cdv A outer s H E τ H0 vs hr tk pa =>
    (ss_cons (s_drop (v_call k_checked_chance (hr.mono (by decide)) tk (by exact rfl) (a_fz (v_var (pe_var (i := 0) rfl (Or.inl (by kernel_rfl)))) a_no)))
    (ss_cons (s_if ((w_or (b_cmp (op_eqD (hu_of1 hr)) d_eq (q_o (o_ix (q_var (pe_var (i := 0) rfl (Or.inl (by kernel_rfl)))) q_int (hu_of hr))) q_int) (w_or1 (b_cmp (op_eqD (hu_of1 hr)) d_eq (q_var (pe_var (i := 0) rfl (Or.inl (by kernel_rfl)))) (q_o (o_tup (aq_and q_int (aq_and q_int aq_no)))))))).pt
    (ss_one (s_raise rfl tk G.g_InvalidPaper (by exact rfl)))
    ss_nil)
    (ss_one (s_ret (v_var (pe_var (i := 0) rfl (Or.inl (by kernel_rfl))))))))
theorem sc_chances : FnScope ["aim", "plan", "chance", "stakes", "win", "lines", "have", "line", "other", "weight"] ["aim", "plan", "chance"] (defScope (top 30)) := ⟨rfl, rfl, rfl, by decide +kernel, rfl, by decide +kernel, by decide +kernel⟩
theorem ok_chances (F : FunD K "chances" "chances" (defArgs (top 30)) (defBody (top 30)) (defScope (top 30)) [] [] f fd) (G : Gt K mg) (k__inner : Kn P w K mg base "_inner" 4 1 [] [] m__inner) (k_checked_plan : Kn P w K mg base "checked_plan" 3 2 [] [] m_checked_plan) (k_minus : Kn P w K mg base "minus" 3 2 [] [] m_minus) (k_plus : Kn P w K mg base "plus" 3 2 [] [] m_plus) (k_rest : Kn P w K mg base "rest" 4 1 [] [] m_rest) (k_solve : Kn P w K mg base "solve" 4 1 [] [] m_solve) : FnOk P w K mg base (L2N.CX P w) (4 + 1) f fd ["aim", "plan", "chance"] (spOf (gB K mg) 3 [] m_chances) :=
  fn_by (b_chances) F sc_chances rfl rfl rfl (by decide) fun cdv A outer s H E τ H0 vs hr tk pa =>
    (ss_cons (s_set (i := 3) sc_chances.nd rfl (Or.inl (by kernel_rfl)) (v_call k_checked_plan (hr.mono (by decide)) tk (by exact rfl) (a_fz (v_var (pe_var (i := 0) rfl (Or.inl (by kernel_rfl)))) (a_fz (v_var (pe_var (i := 1) rfl (Or.inl (by kernel_rfl)))) a_no))))
    (ss_cons (s_set (i := 4) sc_chances.nd rfl (Or.inl (by kernel_rfl)) (v_call k__inner (hr.mono (by decide)) tk (by exact rfl) (a_fz (v_var (pe_var (i := 2) rfl (Or.inl (by kernel_rfl)))) a_no)))
    (ss_cons (s_set (i := 5) sc_chances.nd rfl (Or.inl (by kernel_rfl)) (v_o (o_lst aq_no)))
    (ss_cons (s_for pa rfl (i_rng (by exact rfl) G.g_range (v_q q_int) (v_var (pe_var (i := 0) rfl (Or.inl (by kernel_rfl))))) (g_name sc_chances.nd rfl (Or.inl (by kernel_rfl)))
    (ss_cons (s_set (i := 7) sc_chances.nd rfl (Or.inl (by kernel_rfl)) (v_o (o_bin r_mul d_mul (q_o (o_lst (aq_and (q_o (o_tup (aq_and q_int (aq_and q_int aq_no)))) aq_no))) (q_var (pe_var (i := 0) rfl (Or.inl (by kernel_rfl)))))))
      (ss_cons (s_put (pe_var (i := 7) rfl (Or.inl (by kernel_rfl))) (q_o (o_bin op_sub d_sub (q_var (pe_var (i := 6) rfl (Or.inl (by kernel_rfl)))) q_int)) (v_o (o_tup (aq_and q_int (aq_and q_int aq_no)))) (hu_of hr))
      (ss_cons (s_for pa rfl (i_seq (v_tup (a_fz (v_o (o_tup (aq_and (q_o (o_bin r_add d_add (q_var (pe_var (i := 6) rfl (Or.inl (by kernel_rfl)))) (q_o (o_ix (q_var (pe_var (i := 3) rfl (Or.inl (by kernel_rfl)))) (q_o (o_bin op_sub d_sub (q_var (pe_var (i := 6) rfl (Or.inl (by kernel_rfl)))) q_int)) (hu_of hr))))) (aq_and (q_var (pe_var (i := 4) rfl (Or.inl (by kernel_rfl)))) aq_no)))) (a_fz (v_tup (a_fz (v_o (o_bin op_sub d_sub (q_var (pe_var (i := 6) rfl (Or.inl (by kernel_rfl)))) (q_o (o_ix (q_var (pe_var (i := 3) rfl (Or.inl (by kernel_rfl)))) (q_o (o_bin op_sub d_sub (q_var (pe_var (i := 6) rfl (Or.inl (by kernel_rfl)))) q_int)) (hu_of hr))))) (a_fz (v_call k_rest (hr.mono (by decide)) tk (by exact rfl) (a_fz (v_var (pe_var (i := 4) rfl (Or.inl (by kernel_rfl)))) a_no)) a_no))) a_no)))) (g_tup rfl (gs_cons (g_name sc_chances.nd rfl (Or.inl (by kernel_rfl))) (gs_cons (g_name sc_chances.nd rfl (Or.inl (by kernel_rfl))) gs_nil)))
      (ss_one (s_if (b_cmp (op_eqD (hu_of1 hr)) d_eq (q_var (pe_var (i := 8) rfl (Or.inl (by kernel_rfl)))) (q_var (pe_var (i := 0) rfl (Or.inl (by kernel_rfl)))))
        (ss_one (s_put (pe_var (i := 7) rfl (Or.inl (by kernel_rfl))) (q_o (o_bin op_sub d_sub (q_var (pe_var (i := 0) rfl (Or.inl (by kernel_rfl)))) q_int)) (v_call k_plus (hr.mono (by decide)) tk (by exact rfl) (a_fz (v_o (o_ix (q_var (pe_var (i := 7) rfl (Or.inl (by kernel_rfl)))) (q_o (o_bin op_sub d_sub (q_var (pe_var (i := 0) rfl (Or.inl (by kernel_rfl)))) q_int)) (hu_of hr))) (a_fz (v_var (pe_var (i := 9) rfl (Or.inl (by kernel_rfl)))) a_no))) (hu_of hr)))
        (ss_one (s_if (b_cmp r_gt d_gt (q_var (pe_var (i := 8) rfl (Or.inl (by kernel_rfl)))) q_int)
          (ss_one (s_put (pe_var (i := 7) rfl (Or.inl (by kernel_rfl))) (q_o (o_bin op_sub d_sub (q_var (pe_var (i := 8) rfl (Or.inl (by kernel_rfl)))) q_int)) (v_call k_minus (hr.mono (by decide)) tk (by exact rfl) (a_fz (v_o (o_ix (q_var (pe_var (i := 7) rfl (Or.inl (by kernel_rfl)))) (q_o (o_bin op_sub d_sub (q_var (pe_var (i := 8) rfl (Or.inl (by kernel_rfl)))) q_int)) (hu_of hr))) (a_fz (v_var (pe_var (i := 9) rfl (Or.inl (by kernel_rfl)))) a_no))) (hu_of hr)))
          ss_nil)))))
      (ss_one (s_drop (v_lm lm_append PySem.F.slot_list_append rfl (pe_var (i := 5) rfl (Or.inl (by kernel_rfl))) (a_fz (v_var (pe_var (i := 7) rfl (Or.inl (by kernel_rfl)))) a_no))))))))
    (ss_one (s_ret (v_bin r_add d_add (v_bin r_add d_add (v_o (o_lst (aq_and (q_o (o_tup (aq_and q_int (aq_and q_int aq_no)))) aq_no))) (v_call k_solve (hr.mono (by decide)) tk (by exact rfl) (a_fz (v_var (pe_var (i := 5) rfl (Or.inl (by kernel_rfl)))) a_no))) (v_o (o_lst (aq_and (q_o (o_tup (aq_and q_int (aq_and q_int aq_no)))) aq_no))))))))))
theorem sc_behind : FnScope ["values", "have", "stake", "chance"] ["values", "have", "stake", "chance"] (defScope (top 32)) := ⟨rfl, rfl, rfl, by decide +kernel, rfl, by decide +kernel, by decide +kernel⟩
theorem ok_behind (F : FunD K "behind" "behind" (defArgs (top 32)) (defBody (top 32)) (defScope (top 32)) [] [] f fd) (G : Gt K mg) (k_plus : Kn P w K mg base "plus" 3 2 [] [] m_plus) (k_rest : Kn P w K mg base "rest" 4 1 [] [] m_rest) (k_times : Kn P w K mg base "times" 3 2 [] [] m_times) : FnOk P w K mg base (L2N.CX P w) (4 + 1) f fd ["values", "have", "stake", "chance"] (spOf (gB K mg) 4 [] m_behind) :=
  fn_by (b_behind) F sc_behind rfl rfl rfl (by decide) fun cdv A outer s H E τ H0 vs hr tk pa =>
    (ss_one (s_ret (v_call k_plus (hr.mono (by decide)) tk (by exact rfl) (a_fz (v_call k_times (hr.mono (by decide)) tk (by exact rfl) (a_fz (v_var (pe_var (i := 3) rfl (Or.inl (by kernel_rfl)))) (a_fz (v_o (o_ix (q_var (pe_var (i := 0) rfl (Or.inl (by kernel_rfl)))) (q_o (o_bin r_add d_add (q_var (pe_var (i := 1) rfl (Or.inl (by kernel_rfl)))) (q_var (pe_var (i := 2) rfl (Or.inl (by kernel_rfl)))))) (hu_of hr))) a_no))) (a_fz (v_call k_times (hr.mono (by decide)) tk (by exact rfl) (a_fz (v_call k_rest (hr.mono (by decide)) tk (by exact rfl) (a_fz (v_var (pe_var (i := 3) rfl (Or.inl (by kernel_rfl)))) a_no)) (a_fz (v_o (o_ix (q_var (pe_var (i := 0) rfl (Or.inl (by kernel_rfl)))) (q_o (o_bin op_sub d_sub (q_var (pe_var (i := 1) rfl (Or.inl (by kernel_rfl)))) (q_var (pe_var (i := 2) rfl (Or.inl (by kernel_rfl)))))) (hu_of hr))) a_no))) a_no)))))
theorem sc_judge_plan : FnScope ["aim", "plan", "chance", "values", "stakes", "win", "value", "have"] ["aim", "plan", "chance", "values"] (defScope (top 33)) := ⟨rfl, rfl, rfl, by decide +kernel, rfl, by decide +kernel, by decide +kernel⟩
theorem ok_judge_plan (F : FunD K "judge_plan" "judge_plan" (defArgs (top 33)) (defBody (top 33)) (defScope (top 33)) [] [] f fd) (G : Gt K mg) (k__inner : Kn P w K mg base "_inner" 4 1 [] [] m__inner) (k_behind : Kn P w K mg base "behind" 5 4 [] [] m_behind) (k_checked_plan : Kn P w K mg base "checked_plan" 3 2 [] [] m_checked_plan) (k_is_part : Kn P w K mg base "is_part" 2 1 [] [] m_is_part) : FnOk P w K mg base (L2N.CX P w) (5 + 1) f fd ["aim", "plan", "chance", "values"] (spOf (gB K mg) 4 [] m_judge_plan) :=
  fn_by (b_judge_plan) F sc_judge_plan rfl rfl rfl (by decide) fun cdv A outer s H E τ H0 vs hr tk pa =>
    (ss_cons (s_set (i := 4) sc_judge_plan.nd rfl (Or.inr (by kernel_rfl)) (v_call k_checked_plan (hr.mono (by decide)) tk (by exact rfl) (a_fz (v_var (pe_var (i := 0) rfl (Or.inl (by kernel_rfl)))) (a_fz (v_var (pe_var (i := 1) rfl (Or.inl (by kernel_rfl)))) a_no))))
    (ss_cons (s_set (i := 5) sc_judge_plan.nd rfl (Or.inr (by kernel_rfl)) (v_call k__inner (hr.mono (by decide)) tk (by exact rfl) (a_fz (v_var (pe_var (i := 2) rfl (Or.inl (by kernel_rfl)))) a_no)))
    (ss_cons (s_if ((w_or (b_cmp (op_neD (hu_of1 hr)) d_ne (q_o (o_b1 r_len d_len G.g_len rfl (by exact rfl) (q_var (pe_var (i := 3) rfl (Or.inr (Or.inl (by kernel_rfl))))))) (q_o (o_bin r_add d_add (q_var (pe_var (i := 0) rfl (Or.inl (by kernel_rfl)))) q_int))) (w_or1 (b_v (v_lc rfl sc_judge_plan.nd (i_seq (v_var (pe_var (i := 3) rfl (Or.inr (Or.inl (by kernel_rfl)))))) (blkOk_by (own := [("value", 6)]) (by kernel_rfl)) (fun _ _ _ _ _ _ _ => (g_name sc_judge_plan.nd rfl (Or.inl (by kernel_rfl)))) (fun _ _ _ _ _ _ _ => (ts_one (b_not (b_v (v_call k_is_part (hr.mono (by decide)) takes_no (by exact rfl) (a_fz (v_var (pe_var (i := 6) rfl (Or.inl (by kernel_rfl)))) a_no)))))) (fun _ _ _ _ _ _ _ => (v_var (pe_var (i := 6) rfl (Or.inl (by kernel_rfl)))))))))).pt
    (ss_one (s_ret (v_q q_bl)))
    ss_nil)
    (ss_cons (s_if ((w_or (b_cmp (op_neD (hu_of1 hr)) d_ne (q_o (o_ix (q_var (pe_var (i := 3) rfl (Or.inr (Or.inl (by kernel_rfl))))) q_int (hu_of hr))) (q_o (o_tup (aq_and q_int (aq_and q_int aq_no))))) (w_or1 (b_cmp (op_neD (hu_of1 hr)) d_ne (q_o (o_ix (q_var (pe_var (i := 3) rfl (Or.inr (Or.inl (by kernel_rfl))))) (q_var (pe_var (i := 0) rfl (Or.inl (by kernel_rfl)))) (hu_of hr))) (q_o (o_tup (aq_and q_int (aq_and q_int aq_no)))))))).pt
    (ss_one (s_ret (v_q q_bl)))
    ss_nil)
    (ss_one (s_ret (v_not (v_lc rfl sc_judge_plan.nd (i_rng (by exact rfl) G.g_range (v_q q_int) (v_var (pe_var (i := 0) rfl (Or.inl (by kernel_rfl))))) (blkOk_by (own := [("have", 7)]) (by kernel_rfl)) (fun _ _ _ _ _ _ _ => (g_name sc_judge_plan.nd rfl (Or.inl (by kernel_rfl)))) (fun _ _ _ _ _ _ _ => (ts_one (b_vcmp (op_neD (hu_of1 hr)) d_ne (v_o (o_ix (q_var (pe_var (i := 3) rfl (Or.inr (Or.inl (by kernel_rfl))))) (q_var (pe_var (i := 7) rfl (Or.inl (by kernel_rfl)))) (hu_of hr))) (v_call k_behind (hr.mono (by decide)) takes_no (by exact rfl) (a_fz (v_var (pe_var (i := 3) rfl (Or.inr (Or.inl (by kernel_rfl))))) (a_fz (v_var (pe_var (i := 7) rfl (Or.inl (by kernel_rfl)))) (a_fz (v_o (o_ix (q_var (pe_var (i := 4) rfl (Or.inr (Or.inl (by kernel_rfl))))) (q_o (o_bin op_sub d_sub (q_var (pe_var (i := 7) rfl (Or.inl (by kernel_rfl)))) q_int)) (hu_of hr))) (a_fz (v_var (pe_var (i := 5) rfl (Or.inr (Or.inl (by kernel_rfl))))) a_no)))))))) (fun _ _ _ _ _ _ _ => (v_var (pe_var (i := 7) rfl (Or.inl (by kernel_rfl)))))))))))))
theorem sc_better : FnScope ["aim", "chance", "values", "have", "stake"] ["aim", "chance", "values"] (defScope (top 34)) := ⟨rfl, rfl, rfl, by decide +kernel, rfl, by decide +kernel, by decide +kernel⟩
theorem ok_better (F : FunD K "better" "better" (defArgs (top 34)) (defBody (top 34)) (defScope (top 34)) [] [] f fd) (G : Gt K mg) (k_behind : Kn P w K mg base "behind" 5 4 [] [] m_behind) (k_is_less : Kn P w K mg base "is_less" 1 2 [] [] m_is_less) : FnOk P w K mg base (L2N.CX P w) (5 + 1) f fd ["aim", "chance", "values"] (spOf (gB K mg) 3 [] m_better) :=
  fn_by (b_better) F sc_better rfl rfl rfl (by decide) fun cdv A outer s H E τ H0 vs hr tk pa =>
    (ss_cons (s_for pa rfl (i_rng (by exact rfl) G.g_range (v_q q_int) (v_var (pe_var (i := 0) rfl (Or.inl (by kernel_rfl))))) (g_name sc_better.nd rfl (Or.inl (by kernel_rfl)))
    (ss_one (s_for pa rfl (i_rng (by exact rfl) G.g_range (v_q q_int) (v_o (o_bin r_add d_add (q_o (o_b2 (call_min2 rfl) d_min2 G.g_min rfl (by exact rfl) (q_var (pe_var (i := 3) rfl (Or.inl (by kernel_rfl)))) (q_o (o_bin op_sub d_sub (q_var (pe_var (i := 0) rfl (Or.inl (by kernel_rfl)))) (q_var (pe_var (i := 3) rfl (Or.inl (by kernel_rfl)))))))) q_int))) (g_name sc_better.nd rfl (Or.inl (by kernel_rfl)))
      (ss_one (s_if (b_v (v_call k_is_less (hr.mono (by decide)) tk (by exact rfl) (a_fz (v_o (o_ix (q_var (pe_var (i := 2) rfl (Or.inl (by kernel_rfl)))) (q_var (pe_var (i := 3) rfl (Or.inl (by kernel_rfl)))) (hu_of hr))) (a_fz (v_call k_behind (hr.mono (by decide)) tk (by exact rfl) (a_fz (v_var (pe_var (i := 2) rfl (Or.inl (by kernel_rfl)))) (a_fz (v_var (pe_var (i := 3) rfl (Or.inl (by kernel_rfl)))) (a_fz (v_var (pe_var (i := 4) rfl (Or.inl (by kernel_rfl)))) (a_fz (v_var (pe_var (i := 1) rfl (Or.inl (by kernel_rfl)))) a_no))))) a_no))))
        (ss_one (s_ret (v_o (o_tup (aq_and (q_var (pe_var (i := 3) rfl (Or.inl (by kernel_rfl)))) (aq_and (q_var (pe_var (i := 4) rfl (Or.inl (by kernel_rfl)))) aq_no))))))
        ss_nil)))))
    (ss_one (s_ret (v_q q_non))))
theorem sc_judge_best : FnScope ["aim", "plan", "chance", "values"] ["aim", "plan", "chance", "values"] (defScope (top 35)) := ⟨rfl, rfl, rfl, by decide +kernel, rfl, by decide +kernel, by decide +kernel⟩
theorem ok_judge_best (F : FunD K "judge_best" "judge_best" (defArgs (top 35)) (defBody (top 35)) (defScope (top 35)) [] [] f fd) (G : Gt K mg) (k_better : Kn P w K mg base "better" 6 3 [] [] m_better) (k_judge_plan : Kn P w K mg base "judge_plan" 6 4 [] [] m_judge_plan) : FnOk P w K mg base (L2N.CX P w) (6 + 1) f fd ["aim", "plan", "chance", "values"] (spOf (gB K mg) 4 [] m_judge_best) :=
  fn_by (b_judge_best) F sc_judge_best rfl rfl rfl (by decide) fun cdv A outer s H E τ H0 vs hr tk pa =>
    (ss_one (s_ret (v_and (v_call k_judge_plan (hr.mono (by decide)) tk (by exact rfl) (a_fz (v_var (pe_var (i := 0) rfl (Or.inl (by kernel_rfl)))) (a_fz (v_var (pe_var (i := 1) rfl (Or.inl (by kernel_rfl)))) (a_fz (v_var (pe_var (i := 2) rfl (Or.inl (by kernel_rfl)))) (a_fz (v_var (pe_var (i := 3) rfl (Or.inl (by kernel_rfl)))) a_no))))) (v_one (v_isN (v_call k_better (hr.mono (by decide)) tk (by exact rfl) (a_fz (v_var (pe_var (i := 0) rfl (Or.inl (by kernel_rfl)))) (a_fz (v_var (pe_var (i := 2) rfl (Or.inl (by kernel_rfl)))) (a_fz (v_var (pe_var (i := 3) rfl (Or.inl (by kernel_rfl)))) a_no)))))))))
theorem sc_checked_plan__b_1 : FnScope ["aim", "plan", "have"] ["aim", "plan"] (defScope (top 27)) := ⟨rfl, rfl, rfl, by decide +kernel, rfl, by decide +kernel, by decide +kernel⟩
theorem ok_checked_plan__b_1 (F : FunD K "checked_plan" "checked_plan" (defArgs (top 27)) (defBody (top 27)) (defScope (top 27)) [] [] f fd) (G : Gt K mg) (k_checked_number : Kn P w K mg base "checked_number" 2 3 [] [] m_checked_number) (k_is_number : Kn P w K mg base "is_number" 1 3 [] [] m_is_number) : FnOk P w K mg base (L2N.CX P w) (2 + 1) f fd ["aim", "plan"] (spOf (gB K mg) 2 [1] m_checked_plan__b_1) :=
  fn_by (b_checked_plan__b_1) F sc_checked_plan__b_1 rfl rfl rfl (by decide) fun cdv A outer s H E τ H0 vs hr tk pa =>
    (ss_cons (s_drop (v_call k_checked_number (hr.mono (by decide)) tk (by exact rfl) (a_fz (v_var (pe_var (i := 0) rfl (Or.inl (by kernel_rfl)))) (a_fz (v_q q_int) (a_fz (v_q (q_glI (by exact rfl) G.g_MOST_ruin)) a_no)))))
    (ss_cons (s_if (b_cmp (op_neD (hu_of1 hr)) d_ne (q_o (o_b1 r_len d_len G.g_len rfl (by exact rfl) (q_var (pe_var (i := 1) rfl (Or.inl (by kernel_rfl)))))) (q_o (o_bin op_sub d_sub (q_var (pe_var (i := 0) rfl (Or.inl (by kernel_rfl)))) q_int)))
    (ss_one (s_raise rfl tk G.g_InvalidPaper (by exact rfl)))
    ss_nil)
    (ss_cons (s_for pa rfl (i_rng (by exact rfl) G.g_range (v_q q_int) (v_var (pe_var (i := 0) rfl (Or.inl (by kernel_rfl))))) (g_name sc_checked_plan__b_1.nd rfl (Or.inl (by kernel_rfl)))
    (ss_one (s_if (b_not (b_v (v_call k_is_number (hr.mono (by decide)) tk (by exact rfl) (a_fz (v_o (o_ix (q_var (pe_var (i := 1) rfl (Or.inl (by kernel_rfl)))) (q_o (o_bin op_sub d_sub (q_var (pe_var (i := 2) rfl (Or.inl (by kernel_rfl)))) q_int)) (hu_of hr))) (a_fz (v_q q_int) (a_fz (v_o (o_b2 (call_min2 rfl) d_min2 G.g_min rfl (by exact rfl) (q_var (pe_var (i := 2) rfl (Or.inl (by kernel_rfl)))) (q_o (o_bin op_sub d_sub (q_var (pe_var (i := 0) rfl (Or.inl (by kernel_rfl)))) (q_var (pe_var (i := 2) rfl (Or.inl (by kernel_rfl)))))))) a_no))))))
      (ss_one (s_raise rfl tk G.g_InvalidPaper (by exact rfl)))
      ss_nil)))
    (ss_one (s_ret (v_o (o_t1 call_list_of d_list G.g_list rfl (by exact rfl) (q_var (pe_var (i := 1) rfl (Or.inl (by kernel_rfl)))))))))))
theorem sc_chances__b_1 : FnScope ["aim", "plan", "chance", "stakes", "win", "lines", "have", "line", "other", "weight"] ["aim", "plan", "chance"] (defScope (top 30)) := ⟨rfl, rfl, rfl, by decide +kernel, rfl, by decide +kernel, by decide +kernel⟩
theorem ok_chances__b_1 (F : FunD K "chances" "chances" (defArgs (top 30)) (defBody (top 30)) (defScope (top 30)) [] [] f fd) (G : Gt K mg) (k__inner : Kn P w K mg base "_inner" 4 1 [] [] m__inner) (k_checked_plan__b_1 : Kn P w K mg base "checked_plan" 3 2 [1] [] m_checked_plan__b_1) (k_minus : Kn P w K mg base "minus" 3 2 [] [] m_minus) (k_plus : Kn P w K mg base "plus" 3 2 [] [] m_plus) (k_rest : Kn P w K mg base "rest" 4 1 [] [] m_rest) (k_solve : Kn P w K mg base "solve" 4 1 [] [] m_solve) : FnOk P w K mg base (L2N.CX P w) (4 + 1) f fd ["aim", "plan", "chance"] (spOf (gB K mg) 3 [1] m_chances__b_1) :=
  fn_by (b_chances__b_1) F sc_chances__b_1 rfl rfl rfl (by decide) fun cdv A outer s H E τ H0 vs hr tk pa =>
    (ss_cons (s_set (i := 3) sc_chances__b_1.nd rfl (Or.inl (by kernel_rfl)) (v_call k_checked_plan__b_1 (hr.mono (by decide)) tk (by exact rfl) (a_fz (v_var (pe_var (i := 0) rfl (Or.inl (by kernel_rfl)))) (a_sl (pe_var (i := 1) rfl (Or.inl (by kernel_rfl))) a_no))))
    (ss_cons (s_set (i := 4) sc_chances__b_1.nd rfl (Or.inl (by kernel_rfl)) (v_call k__inner (hr.mono (by decide)) tk (by exact rfl) (a_fz (v_var (pe_var (i := 2) rfl (Or.inl (by kernel_rfl)))) a_no)))
    (ss_cons (s_set (i := 5) sc_chances__b_1.nd rfl (Or.inl (by kernel_rfl)) (v_o (o_lst aq_no)))
    (ss_cons (s_for pa rfl (i_rng (by exact rfl) G.g_range (v_q q_int) (v_var (pe_var (i := 0) rfl (Or.inl (by kernel_rfl))))) (g_name sc_chances__b_1.nd rfl (Or.inl (by kernel_rfl)))
    (ss_cons (s_set (i := 7) sc_chances__b_1.nd rfl (Or.inl (by kernel_rfl)) (v_o (o_bin r_mul d_mul (q_o (o_lst (aq_and (q_o (o_tup (aq_and q_int (aq_and q_int aq_no)))) aq_no))) (q_var (pe_var (i := 0) rfl (Or.inl (by kernel_rfl)))))))
      (ss_cons (s_put (pe_var (i := 7) rfl (Or.inl (by kernel_rfl))) (q_o (o_bin op_sub d_sub (q_var (pe_var (i := 6) rfl (Or.inl (by kernel_rfl)))) q_int)) (v_o (o_tup (aq_and q_int (aq_and q_int aq_no)))) (hu_of hr))
      (ss_cons (s_for pa rfl (i_seq (v_tup (a_fz (v_o (o_tup (aq_and (q_o (o_bin r_add d_add (q_var (pe_var (i := 6) rfl (Or.inl (by kernel_rfl)))) (q_o (o_ix (q_var (pe_var (i := 3) rfl (Or.inl (by kernel_rfl)))) (q_o (o_bin op_sub d_sub (q_var (pe_var (i := 6) rfl (Or.inl (by kernel_rfl)))) q_int)) (hu_of hr))))) (aq_and (q_var (pe_var (i := 4) rfl (Or.inl (by kernel_rfl)))) aq_no)))) (a_fz (v_tup (a_fz (v_o (o_bin op_sub d_sub (q_var (pe_var (i := 6) rfl (Or.inl (by kernel_rfl)))) (q_o (o_ix (q_var (pe_var (i := 3) rfl (Or.inl (by kernel_rfl)))) (q_o (o_bin op_sub d_sub (q_var (pe_var (i := 6) rfl (Or.inl (by kernel_rfl)))) q_int)) (hu_of hr))))) (a_fz (v_call k_rest (hr.mono (by decide)) tk (by exact rfl) (a_fz (v_var (pe_var (i := 4) rfl (Or.inl (by kernel_rfl)))) a_no)) a_no))) a_no)))) (g_tup rfl (gs_cons (g_name sc_chances__b_1.nd rfl (Or.inl (by kernel_rfl))) (gs_cons (g_name sc_chances__b_1.nd rfl (Or.inl (by kernel_rfl))) gs_nil)))
      (ss_one (s_if (b_cmp (op_eqD (hu_of1 hr)) d_eq (q_var (pe_var (i := 8) rfl (Or.inl (by kernel_rfl)))) (q_var (pe_var (i := 0) rfl (Or.inl (by kernel_rfl)))))
        (ss_one (s_put (pe_var (i := 7) rfl (Or.inl (by kernel_rfl))) (q_o (o_bin op_sub d_sub (q_var (pe_var (i := 0) rfl (Or.inl (by kernel_rfl)))) q_int)) (v_call k_plus (hr.mono (by decide)) tk (by exact rfl) (a_fz (v_o (o_ix (q_var (pe_var (i := 7) rfl (Or.inl (by kernel_rfl)))) (q_o (o_bin op_sub d_sub (q_var (pe_var (i := 0) rfl (Or.inl (by kernel_rfl)))) q_int)) (hu_of hr))) (a_fz (v_var (pe_var (i := 9) rfl (Or.inl (by kernel_rfl)))) a_no))) (hu_of hr)))
        (ss_one (s_if (b_cmp r_gt d_gt (q_var (pe_var (i := 8) rfl (Or.inl (by kernel_rfl)))) q_int)
          (ss_one (s_put (pe_var (i := 7) rfl (Or.inl (by kernel_rfl))) (q_o (o_bin op_sub d_sub (q_var (pe_var (i := 8) rfl (Or.inl (by kernel_rfl)))) q_int)) (v_call k_minus (hr.mono (by decide)) tk (by exact rfl) (a_fz (v_o (o_ix (q_var (pe_var (i := 7) rfl (Or.inl (by kernel_rfl)))) (q_o (o_bin op_sub d_sub (q_var (pe_var (i := 8) rfl (Or.inl (by kernel_rfl)))) q_int)) (hu_of hr))) (a_fz (v_var (pe_var (i := 9) rfl (Or.inl (by kernel_rfl)))) a_no))) (hu_of hr)))
          ss_nil)))))
      (ss_one (s_drop (v_lm lm_append PySem.F.slot_list_append rfl (pe_var (i := 5) rfl (Or.inl (by kernel_rfl))) (a_fz (v_var (pe_var (i := 7) rfl (Or.inl (by kernel_rfl)))) a_no))))))))
    (ss_one (s_ret (v_bin r_add d_add (v_bin r_add d_add (v_o (o_lst (aq_and (q_o (o_tup (aq_and q_int (aq_and q_int aq_no)))) aq_no))) (v_call k_solve (hr.mono (by decide)) tk (by exact rfl) (a_fz (v_var (pe_var (i := 5) rfl (Or.inl (by kernel_rfl)))) a_no))) (v_o (o_lst (aq_and (q_o (o_tup (aq_and q_int (aq_and q_int aq_no)))) aq_no))))))))))
theorem sc_best : FnScope ["aim", "chance", "plan", "win", "values", "have", "stake", "now"] ["aim", "chance"] (defScope (top 36)) := ⟨rfl, rfl, rfl, by decide +kernel, rfl, by decide +kernel, by decide +kernel⟩
theorem ok_best (F : FunD K "best" "best" (defArgs (top 36)) (defBody (top 36)) (defScope (top 36)) [] [] f fd) (G : Gt K mg) (k__inner : Kn P w K mg base "_inner" 4 1 [] [] m__inner) (k_behind : Kn P w K mg base "behind" 5 4 [] [] m_behind) (k_better : Kn P w K mg base "better" 6 3 [] [] m_better) (k_bold : Kn P w K mg base "bold" 3 1 [] [] m_bold) (k_chances__b_1 : Kn P w K mg base "chances" 5 3 [1] [] m_chances__b_1) (k_is_less : Kn P w K mg base "is_less" 1 2 [] [] m_is_less) : FnOk P w K mg base (L2N.CX P w) (6 + 1) f fd ["aim", "chance"] (spOf (gB K mg) 2 [] m_best) :=
  fn_by (b_best) F sc_best rfl rfl rfl (by decide) fun cdv A outer s H E τ H0 vs hr tk pa =>
    (ss_cons (s_set (i := 2) sc_best.nd rfl (Or.inl (by kernel_rfl)) (v_call k_bold (hr.mono (by decide)) tk (by exact rfl) (a_fz (v_var (pe_var (i := 0) rfl (Or.inl (by kernel_rfl)))) a_no)))
    (ss_cons (s_set (i := 3) sc_best.nd rfl (Or.inl (by kernel_rfl)) (v_call k__inner (hr.mono (by decide)) tk (by exact rfl) (a_fz (v_var (pe_var (i := 1) rfl (Or.inl (by kernel_rfl)))) a_no)))
    (ss_cons (s_set (i := 4) sc_best.nd rfl (Or.inl (by kernel_rfl)) (v_call k_chances__b_1 (hr.mono (by decide)) tk (by exact rfl) (a_fz (v_var (pe_var (i := 0) rfl (Or.inl (by kernel_rfl)))) (a_sl (pe_var (i := 2) rfl (Or.inl (by kernel_rfl))) (a_fz (v_var (pe_var (i := 3) rfl (Or.inl (by kernel_rfl)))) a_no)))))
    (ss_cons (s_while 20000 pa (b_vnotN (v_call k_better (hr.mono (by decide)) tk (by exact rfl) (a_fz (v_var (pe_var (i := 0) rfl (Or.inl (by kernel_rfl)))) (a_fz (v_var (pe_var (i := 3) rfl (Or.inl (by kernel_rfl)))) (a_fz (v_var (pe_var (i := 4) rfl (Or.inl (by kernel_rfl)))) a_no)))))
    (ss_cons (s_for pa rfl (i_rng (by exact rfl) G.g_range (v_q q_int) (v_var (pe_var (i := 0) rfl (Or.inl (by kernel_rfl))))) (g_name sc_best.nd rfl (Or.inl (by kernel_rfl)))
      (ss_one (s_for pa rfl (i_rng (by exact rfl) G.g_range (v_q q_int) (v_o (o_bin r_add d_add (q_o (o_b2 (call_min2 rfl) d_min2 G.g_min rfl (by exact rfl) (q_var (pe_var (i := 5) rfl (Or.inl (by kernel_rfl)))) (q_o (o_bin op_sub d_sub (q_var (pe_var (i := 0) rfl (Or.inl (by kernel_rfl)))) (q_var (pe_var (i := 5) rfl (Or.inl (by kernel_rfl)))))))) q_int))) (g_name sc_best.nd rfl (Or.inl (by kernel_rfl)))
        (ss_cons (s_set (i := 7) sc_best.nd rfl (Or.inl (by kernel_rfl)) (v_call k_behind (hr.mono (by decide)) tk (by exact rfl) (a_fz (v_var (pe_var (i := 4) rfl (Or.inl (by kernel_rfl)))) (a_fz (v_var (pe_var (i := 5) rfl (Or.inl (by kernel_rfl)))) (a_fz (v_o (o_ix (q_var (pe_var (i := 2) rfl (Or.inl (by kernel_rfl)))) (q_o (o_bin op_sub d_sub (q_var (pe_var (i := 5) rfl (Or.inl (by kernel_rfl)))) q_int)) (hu_of hr))) (a_fz (v_var (pe_var (i := 3) rfl (Or.inl (by kernel_rfl)))) a_no))))))
          (ss_one (s_if (b_v (v_call k_is_less (hr.mono (by decide)) tk (by exact rfl) (a_fz (v_var (pe_var (i := 7) rfl (Or.inl (by kernel_rfl)))) (a_fz (v_call k_behind (hr.mono (by decide)) tk (by exact rfl) (a_fz (v_var (pe_var (i := 4) rfl (Or.inl (by kernel_rfl)))) (a_fz (v_var (pe_var (i := 5) rfl (Or.inl (by kernel_rfl)))) (a_fz (v_var (pe_var (i := 6) rfl (Or.inl (by kernel_rfl)))) (a_fz (v_var (pe_var (i := 3) rfl (Or.inl (by kernel_rfl)))) a_no))))) a_no))))
          (ss_one (s_put (pe_var (i := 2) rfl (Or.inl (by kernel_rfl))) (q_o (o_bin op_sub d_sub (q_var (pe_var (i := 5) rfl (Or.inl (by kernel_rfl)))) q_int)) (v_var (pe_var (i := 6) rfl (Or.inl (by kernel_rfl)))) (hu_of hr)))
          ss_nil))))))
      (ss_one (s_set (i := 4) sc_best.nd rfl (Or.inl (by kernel_rfl)) (v_call k_chances__b_1 (hr.mono (by decide)) tk (by exact rfl) (a_fz (v_var (pe_var (i := 0) rfl (Or.inl (by kernel_rfl)))) (a_sl (pe_var (i := 2) rfl (Or.inl (by kernel_rfl))) (a_fz (v_var (pe_var (i := 3) rfl (Or.inl (by kernel_rfl)))) a_no))))))))
    (ss_one (s_ret (v_move (pe_var (i := 2) rfl (Or.inl (by kernel_rfl))))))))))
theorem sc__law_same : FnScope ["actual", "due", "k"] ["actual", "due"] (defScope (top 38)) := ⟨rfl, rfl, rfl, by decide +kernel, rfl, by decide +kernel, by decide +kernel⟩
theorem ok__law_same (F : FunD K "_law_same" "_law_same" (defArgs (top 38)) (defBody (top 38)) (defScope (top 38)) [] [] f fd) (G : Gt K mg) (n : Nat) (k_self : Kn P w K mg base "_law_same" (0 + n) 2 [] [] (m__law_same n)) : FnOk P w K mg base (L2N.CX P w) (0 + n + 1) f fd ["actual", "due"] (spOf (gB K mg) 2 [] (m__law_same (n + 1))) :=
  fn_by (b__law_same (m__law_same n)) F sc__law_same rfl rfl rfl (by decide) fun cdv A outer s H E τ H0 vs hr tk pa =>
    (ss_cons (s_if (b_isN (q_var (pe_var (i := 1) rfl (Or.inl (by kernel_rfl)))))
    (ss_one (s_ret (v_o (o_isN (q_var (pe_var (i := 0) rfl (Or.inl (by kernel_rfl))))))))
    ss_nil)
    (ss_cons (s_if (b_q (q_o (o_isi2 (T := "tuple") (U := "list") (by decide) (by decide) G.g_isinstance rfl (by exact rfl) G.g_tuple rfl (by exact rfl) G.g_list rfl (by exact rfl) (q_var (pe_var (i := 1) rfl (Or.inl (by kernel_rfl)))))))
    (ss_cons (s_if ((w_or (b_cmp (op_neD (hu_of1 hr)) d_ne (q_o (o_isi (T := "tuple") (by decide) G.g_isinstance rfl (by exact rfl) G.g_tuple rfl (by exact rfl) (q_var (pe_var (i := 1) rfl (Or.inl (by kernel_rfl)))))) (q_o (o_isi (T := "tuple") (by decide) G.g_isinstance rfl (by exact rfl) G.g_tuple rfl (by exact rfl) (q_var (pe_var (i := 0) rfl (Or.inl (by kernel_rfl))))))) (w_or1 (b_cmp (op_neD (hu_of1 hr)) d_ne (q_o (o_isi (T := "list") (by decide) G.g_isinstance rfl (by exact rfl) G.g_list rfl (by exact rfl) (q_var (pe_var (i := 1) rfl (Or.inl (by kernel_rfl)))))) (q_o (o_isi (T := "list") (by decide) G.g_isinstance rfl (by exact rfl) G.g_list rfl (by exact rfl) (q_var (pe_var (i := 0) rfl (Or.inl (by kernel_rfl)))))))))).pt
      (ss_one (s_ret (v_q q_bl)))
      ss_nil)
      (ss_cons (s_if (b_cmp (op_neD (hu_of1 hr)) d_ne (q_o (o_b1 r_len d_len G.g_len rfl (by exact rfl) (q_var (pe_var (i := 0) rfl (Or.inl (by kernel_rfl)))))) (q_o (o_b1 r_len d_len G.g_len rfl (by exact rfl) (q_var (pe_var (i := 1) rfl (Or.inl (by kernel_rfl)))))))
      (ss_one (s_ret (v_q q_bl)))
      ss_nil)
      (ss_cons (s_for pa rfl (i_rng0 (by exact rfl) G.g_range (v_o (o_b1 r_len d_len G.g_len rfl (by exact rfl) (q_var (pe_var (i := 1) rfl (Or.inl (by kernel_rfl))))))) (g_name sc__law_same.nd rfl (Or.inl (by kernel_rfl)))
      (ss_one (s_if (b_not (b_v (v_call k_self (hr.mono (by omega)) tk (by exact rfl) (a_fz (v_o (o_ix (q_var (pe_var (i := 0) rfl (Or.inl (by kernel_rfl)))) (q_var (pe_var (i := 2) rfl (Or.inl (by kernel_rfl)))) (hu_of hr))) (a_fz (v_o (o_ix (q_var (pe_var (i := 1) rfl (Or.inl (by kernel_rfl)))) (q_var (pe_var (i := 2) rfl (Or.inl (by kernel_rfl)))) (hu_of hr))) a_no)))))
        (ss_one (s_ret (v_q q_bl)))
        ss_nil)))
      (ss_one (s_ret (v_q q_bl))))))
    ss_nil)
    (ss_cons (s_if (b_q (q_o (o_isi (T := "bool") (by decide) G.g_isinstance rfl (by exact rfl) G.g_bool rfl (by exact rfl) (q_var (pe_var (i := 1) rfl (Or.inl (by kernel_rfl)))))))
    (ss_one (s_ret (v_and (v_o (o_isi (T := "bool") (by decide) G.g_isinstance rfl (by exact rfl) G.g_bool rfl (by exact rfl) (q_var (pe_var (i := 0) rfl (Or.inl (by kernel_rfl)))))) (v_one (v_o (o_cmp (op_eqD (hu_of1 hr)) d_eq (q_var (pe_var (i := 0) rfl (Or.inl (by kernel_rfl)))) (q_var (pe_var (i := 1) rfl (Or.inl (by kernel_rfl))))))))))
    ss_nil)
    (ss_cons (s_if (b_q (q_o (o_isi (T := "int") (by decide) G.g_isinstance rfl (by exact rfl) G.g_int rfl (by exact rfl) (q_var (pe_var (i := 1) rfl (Or.inl (by kernel_rfl)))))))
    (ss_one (s_ret (v_and (v_o (o_isi (T := "int") (by decide) G.g_isinstance rfl (by exact rfl) G.g_int rfl (by exact rfl) (q_var (pe_var (i := 0) rfl (Or.inl (by kernel_rfl)))))) (v_and (v_o (o_not (q_o (o_isi (T := "bool") (by decide) G.g_isinstance rfl (by exact rfl) G.g_bool rfl (by exact rfl) (q_var (pe_var (i := 0) rfl (Or.inl (by kernel_rfl)))))))) (v_one (v_o (o_cmp (op_eqD (hu_of1 hr)) d_eq (q_var (pe_var (i := 0) rfl (Or.inl (by kernel_rfl)))) (q_var (pe_var (i := 1) rfl (Or.inl (by kernel_rfl)))))))))))
    ss_nil)
    (ss_one (s_ret (v_and (v_o (o_isi (T := "str") (by decide) G.g_isinstance rfl (by exact rfl) G.g_str rfl (by exact rfl) (q_var (pe_var (i := 0) rfl (Or.inl (by kernel_rfl)))))) (v_one (v_o (o_cmp (op_eqD (hu_of1 hr)) d_eq (q_var (pe_var (i := 0) rfl (Or.inl (by kernel_rfl)))) (q_var (pe_var (i := 1) rfl (Or.inl (by kernel_rfl))))))))))))))
theorem sc__law_pool : FnScope ["script"] ["script"] (defScope (top 39)) := ⟨rfl, rfl, rfl, by decide +kernel, rfl, by decide +kernel, by decide +kernel⟩
theorem ok__law_pool (F : FunD K "_law_pool" "_law_pool" (defArgs (top 39)) (defBody (top 39)) (defScope (top 39)) [] [] f fd) (G : Gt K mg) : FnOk P w K mg base (L2N.CX P w) (0 + 1) f fd ["script"] (spOf (gB K mg) 1 [] m__law_pool) :=
  fn_by (b__law_pool) F sc__law_pool rfl rfl rfl (by decide) fun cdv A outer s H E τ H0 vs hr tk pa =>
    (ss_one (s_ret (v_o (o_lst (aq_and (q_o (o_t1 call_list_of d_list G.g_list rfl (by exact rfl) (q_var (pe_var (i := 0) rfl (Or.inl (by kernel_rfl)))))) (aq_and q_int (aq_and q_int (aq_and q_int (aq_and q_int aq_no)))))))))
theorem sc__law_draw : FnScope ["pool", "many", "mixed", "found", "cell"] ["pool", "many"] (defScope (top 40)) := ⟨rfl, rfl, rfl, by decide +kernel, rfl, by decide +kernel, by decide +kernel⟩
theorem ok__law_draw (F : FunD K "_law_draw" "_law_draw" (defArgs (top 40)) (defBody (top 40)) (defScope (top 40)) [] [] f fd) (G : Gt K mg) : FnOk P w K mg base (L2N.CX P w) (0 + 1) f fd ["pool", "many"] (spOf (gB K mg) 2 [0] m__law_draw) :=
  fn_by (b__law_draw) F sc__law_draw rfl rfl rfl (by decide) fun cdv A outer s H E τ H0 vs hr tk pa =>
    (ss_cons (s_if (b_cmp r_gt d_gt (q_o (o_ix (q_var (pe_var (i := 0) rfl (Or.inl (by kernel_rfl)))) q_int (hu_of hr))) q_int)
    (ss_cons (s_set (i := 3) sc__law_draw.nd rfl (Or.inl (by kernel_rfl)) (v_o (o_bin r_mod d_mod (q_o (o_t1 r_int d_int G.g_int rfl (by exact rfl) (q_o (o_ix (q_var (pe_var (i := 0) rfl (Or.inl (by kernel_rfl)))) q_int (hu_of hr))))) (q_var (pe_var (i := 1) rfl (Or.inl (by kernel_rfl)))))))
      (ss_cons (s_put (pe_var (i := 0) rfl (Or.inl (by kernel_rfl))) q_int (v_o (o_bin r_div d_div (q_o (o_ix (q_var (pe_var (i := 0) rfl (Or.inl (by kernel_rfl)))) q_int (hu_of hr))) (q_var (pe_var (i := 1) rfl (Or.inl (by kernel_rfl)))))) (hu_of hr))
      (ss_one (s_ret (v_move (pe_var (i := 3) rfl (Or.inl (by kernel_rfl))))))))
    ss_nil)
    (ss_cons (s_if ((w_and (b_cmp (op_eqD (hu_of1 hr)) d_eq (q_o (o_bin r_mod d_mod (q_o (o_t1 r_int d_int G.g_int rfl (by exact rfl) (q_o (o_ix (q_var (pe_var (i := 0) rfl (Or.inl (by kernel_rfl)))) q_int (hu_of hr))))) q_int)) q_int) (w_and1 (b_cmp r_lt d_lt (q_o (o_ix (q_var (pe_var (i := 0) rfl (Or.inl (by kernel_rfl)))) q_int (hu_of hr))) (q_o (o_b1 r_len d_len G.g_len rfl (by exact rfl) (q_o (o_ix (q_var (pe_var (i := 0) rfl (Or.inl (by kernel_rfl)))) q_int (hu_of hr))))))))).pt
    (ss_cons (s_set (i := 4) sc__law_draw.nd rfl (Or.inl (by kernel_rfl)) (v_o (o_b1 call_abs d_abs G.g_abs rfl (by exact rfl) (q_o (o_ix (q_o (o_ix (q_var (pe_var (i := 0) rfl (Or.inl (by kernel_rfl)))) q_int (hu_of hr))) (q_o (o_ix (q_var (pe_var (i := 0) rfl (Or.inl (by kernel_rfl)))) q_int (hu_of hr))) (hu_of hr))))))
      (ss_cons (s_put (pe_var (i := 0) rfl (Or.inl (by kernel_rfl))) q_int (v_o (o_bin r_add d_add (q_o (o_ix (q_var (pe_var (i := 0) rfl (Or.inl (by kernel_rfl)))) q_int (hu_of hr))) q_int)) (hu_of hr))
      (ss_cons (s_if (b_cmp r_ge d_ge (q_var (pe_var (i := 4) rfl (Or.inl (by kernel_rfl)))) (q_o (o_bin op_pow d_pow q_int q_int)))
      (ss_cons (s_put (pe_var (i := 0) rfl (Or.inl (by kernel_rfl))) q_int (v_o (o_bin r_div d_div (q_var (pe_var (i := 4) rfl (Or.inl (by kernel_rfl)))) (q_var (pe_var (i := 1) rfl (Or.inl (by kernel_rfl)))))) (hu_of hr))
        (ss_one (s_ret (v_o (o_bin r_mod d_mod (q_o (o_t1 r_int d_int G.g_int rfl (by exact rfl) (q_var (pe_var (i := 4) rfl (Or.inl (by kernel_rfl)))))) (q_var (pe_var (i := 1) rfl (Or.inl (by kernel_rfl)))))))))
      ss_nil)
      (ss_one (s_put (pe_var (i := 0) rfl (Or.inl (by kernel_rfl))) q_int (v_var (pe_var (i := 4) rfl (Or.inl (by kernel_rfl)))) (hu_of hr))))))
    ss_nil)
    (ss_cons (s_put (pe_var (i := 0) rfl (Or.inl (by kernel_rfl))) q_int (v_o (o_bin r_add d_add (q_o (o_ix (q_var (pe_var (i := 0) rfl (Or.inl (by kernel_rfl)))) q_int (hu_of hr))) q_int)) (hu_of hr))
    (ss_cons (s_set (i := 2) sc__law_draw.nd rfl (Or.inl (by kernel_rfl)) (v_o (o_bin r_mod d_mod (q_o (o_t1 r_int d_int G.g_int rfl (by exact rfl) (q_o (o_bin r_add d_add (q_o (o_bin r_add d_add (q_o (o_bin r_mul d_mul (q_o (o_ix (q_var (pe_var (i := 0) rfl (Or.inl (by kernel_rfl)))) q_int (hu_of hr))) q_int)) (q_o (o_bin r_mul d_mul (q_o (o_ix (q_var (pe_var (i := 0) rfl (Or.inl (by kernel_rfl)))) q_int (hu_of hr))) q_int)))) q_int)))) q_int)))
    (ss_cons (s_set (i := 2) sc__law_draw.nd rfl (Or.inl (by kernel_rfl)) (v_o (o_bin r_mod d_mod (q_o (o_t1 r_int d_int G.g_int rfl (by exact rfl) (q_o (o_bin r_add d_add (q_o (o_bin r_mul d_mul (q_var (pe_var (i := 2) rfl (Or.inl (by kernel_rfl)))) (q_var (pe_var (i := 2) rfl (Or.inl (by kernel_rfl)))))) (q_o (o_bin r_mul d_mul (q_o (o_ix (q_var (pe_var (i := 0) rfl (Or.inl (by kernel_rfl)))) q_int (hu_of hr))) q_int)))))) q_int)))
    (ss_one (s_ret (v_o (o_bin r_mod d_mod (q_o (o_t1 r_int d_int G.g_int rfl (by exact rfl) (q_var (pe_var (i := 2) rfl (Or.inl (by kernel_rfl)))))) (q_var (pe_var (i := 1) rfl (Or.inl (by kernel_rfl)))))))))))))
theorem sc__law_pick : FnScope ["pool", "rows"] ["pool", "rows"] (defScope (top 41)) := ⟨rfl, rfl, rfl, by decide +kernel, rfl, by decide +kernel, by decide +kernel⟩
theorem ok__law_pick (F : FunD K "_law_pick" "_law_pick" (defArgs (top 41)) (defBody (top 41)) (defScope (top 41)) [] [] f fd) (G : Gt K mg) (k__law_draw : Kn P w K mg base "_law_draw" 1 2 [0] [] m__law_draw) : FnOk P w K mg base (L2N.CX P w) (1 + 1) f fd ["pool", "rows"] (spOf (gB K mg) 2 [0] m__law_pick) :=
  fn_by (b__law_pick) F sc__law_pick rfl rfl rfl (by decide) fun cdv A outer s H E τ H0 vs hr tk pa =>
    (ss_one (s_ret (v_ix (v_var (pe_var (i := 1) rfl (Or.inl (by kernel_rfl)))) (v_call k__law_draw (hr.mono (by decide)) tk (by exact rfl) (a_sl (pe_var (i := 0) rfl (Or.inl (by kernel_rfl))) (a_fz (v_o (o_b1 r_len d_len G.g_len rfl (by exact rfl) (q_var (pe_var (i := 1) rfl (Or.inl (by kernel_rfl)))))) a_no))) (hu_of hr))))
theorem sc__law_part : FnScope ["over_v", "under", "one", "other", "kept"] ["over_v", "under"] (defScope (top 42)) := ⟨rfl, rfl, rfl, by decide +kernel, rfl, by decide +kernel, by decide +kernel⟩
theorem ok__law_part (F : FunD K "_law_part" "_law_part" (defArgs (top 42)) (defBody (top 42)) (defScope (top 42)) [] [] f fd) (G : Gt K mg) : FnOk P w K mg base (L2N.CX P w) (0 + 1) f fd ["over_v", "under"] (spOf (gB K mg) 2 [] m__law_part) :=
  fn_by (b__law_part) F sc__law_part rfl rfl rfl (by decide) fun cdv A outer s H E τ H0 vs hr tk pa =>
    (ss_cons (s_set (i := 2) sc__law_part.nd rfl (Or.inl (by kernel_rfl)) (v_o (o_b1 call_abs d_abs G.g_abs rfl (by exact rfl) (q_var (pe_var (i := 0) rfl (Or.inl (by kernel_rfl)))))))
    (ss_cons (s_set (i := 3) sc__law_part.nd rfl (Or.inl (by kernel_rfl)) (v_var (pe_var (i := 1) rfl (Or.inl (by kernel_rfl)))))
    (ss_cons (s_while 20000 pa (b_cmp r_gt d_gt (q_var (pe_var (i := 3) rfl (Or.inl (by kernel_rfl)))) q_int)
    (ss_cons (s_set (i := 4) sc__law_part.nd rfl (Or.inl (by kernel_rfl)) (v_o (o_bin r_mod d_mod (q_o (o_t1 r_int d_int G.g_int rfl (by exact rfl) (q_var (pe_var (i := 2) rfl (Or.inl (by kernel_rfl)))))) (q_var (pe_var (i := 3) rfl (Or.inl (by kernel_rfl)))))))
      (ss_cons (s_set (i := 2) sc__law_part.nd rfl (Or.inl (by kernel_rfl)) (v_var (pe_var (i := 3) rfl (Or.inl (by kernel_rfl)))))
      (ss_one (s_set (i := 3) sc__law_part.nd rfl (Or.inl (by kernel_rfl)) (v_var (pe_var (i := 4) rfl (Or.inl (by kernel_rfl)))))))))
    (ss_one (s_ret (v_o (o_tup (aq_and (q_o (o_bin r_div d_div (q_var (pe_var (i := 0) rfl (Or.inl (by kernel_rfl)))) (q_var (pe_var (i := 2) rfl (Or.inl (by kernel_rfl)))))) (aq_and (q_o (o_bin r_div d_div (q_var (pe_var (i := 1) rfl (Or.inl (by kernel_rfl)))) (q_var (pe_var (i := 2) rfl (Or.inl (by kernel_rfl)))))) aq_no)))))))))
theorem sc__law_plus : FnScope ["one", "other"] ["one", "other"] (defScope (top 43)) := ⟨rfl, rfl, rfl, by decide +kernel, rfl, by decide +kernel, by decide +kernel⟩
theorem ok__law_plus (F : FunD K "_law_plus" "_law_plus" (defArgs (top 43)) (defBody (top 43)) (defScope (top 43)) [] [] f fd) (G : Gt K mg) (k__law_part : Kn P w K mg base "_law_part" 1 2 [] [] m__law_part) : FnOk P w K mg base (L2N.CX P w) (1 + 1) f fd ["one", "other"] (spOf (gB K mg) 2 [] m__law_plus) :=
  fn_by (b__law_plus) F sc__law_plus rfl rfl rfl (by decide) fun cdv A outer s H E τ H0 vs hr tk pa =>
    (ss_one (s_ret (v_call k__law_part (hr.mono (by decide)) tk (by exact rfl) (a_fz (v_o (o_bin r_add d_add (q_o (o_bin r_mul d_mul (q_o (o_ix (q_var (pe_var (i := 0) rfl (Or.inl (by kernel_rfl)))) q_int (hu_of hr))) (q_o (o_ix (q_var (pe_var (i := 1) rfl (Or.inl (by kernel_rfl)))) q_int (hu_of hr))))) (q_o (o_bin r_mul d_mul (q_o (o_ix (q_var (pe_var (i := 1) rfl (Or.inl (by kernel_rfl)))) q_int (hu_of hr))) (q_o (o_ix (q_var (pe_var (i := 0) rfl (Or.inl (by kernel_rfl)))) q_int (hu_of hr))))))) (a_fz (v_o (o_bin r_mul d_mul (q_o (o_ix (q_var (pe_var (i := 0) rfl (Or.inl (by kernel_rfl)))) q_int (hu_of hr))) (q_o (o_ix (q_var (pe_var (i := 1) rfl (Or.inl (by kernel_rfl)))) q_int (hu_of hr))))) a_no)))))
theorem sc__law_less : FnScope ["one", "other"] ["one", "other"] (defScope (top 44)) := ⟨rfl, rfl, rfl, by decide +kernel, rfl, by decide +kernel, by decide +kernel⟩
theorem ok__law_less (F : FunD K "_law_less" "_law_less" (defArgs (top 44)) (defBody (top 44)) (defScope (top 44)) [] [] f fd) (G : Gt K mg) : FnOk P w K mg base (L2N.CX P w) (0 + 1) f fd ["one", "other"] (spOf (gB K mg) 2 [] m__law_less) :=
  fn_by (b__law_less) F sc__law_less rfl rfl rfl (by decide) fun cdv A outer s H E τ H0 vs hr tk pa =>
    (ss_one (s_ret (v_o (o_cmp r_lt d_lt (q_o (o_bin r_mul d_mul (q_o (o_ix (q_var (pe_var (i := 0) rfl (Or.inl (by kernel_rfl)))) q_int (hu_of hr))) (q_o (o_ix (q_var (pe_var (i := 1) rfl (Or.inl (by kernel_rfl)))) q_int (hu_of hr))))) (q_o (o_bin r_mul d_mul (q_o (o_ix (q_var (pe_var (i := 1) rfl (Or.inl (by kernel_rfl)))) q_int (hu_of hr))) (q_o (o_ix (q_var (pe_var (i := 0) rfl (Or.inl (by kernel_rfl)))) q_int (hu_of hr)))))))))
theorem sc__law_sum : FnScope ["parts", "found", "value"] ["parts"] (defScope (top 45)) := ⟨rfl, rfl, rfl, by decide +kernel, rfl, by decide +kernel, by decide +kernel⟩
theorem ok__law_sum (F : FunD K "_law_sum" "_law_sum" (defArgs (top 45)) (defBody (top 45)) (defScope (top 45)) [] [] f fd) (G : Gt K mg) (k__law_plus : Kn P w K mg base "_law_plus" 2 2 [] [] m__law_plus) : FnOk P w K mg base (L2N.CX P w) (2 + 1) f fd ["parts"] (spOf (gB K mg) 1 [] m__law_sum) :=
  fn_by (b__law_sum) F sc__law_sum rfl rfl rfl (by decide) fun cdv A outer s H E τ H0 vs hr tk pa =>
    (ss_cons (s_set (i := 1) sc__law_sum.nd rfl (Or.inl (by kernel_rfl)) (v_o (o_tup (aq_and q_int (aq_and q_int aq_no)))))
    (ss_cons (s_for pa rfl (i_seq (v_var (pe_var (i := 0) rfl (Or.inl (by kernel_rfl))))) (g_name sc__law_sum.nd rfl (Or.inl (by kernel_rfl)))
    (ss_one (s_set (i := 1) sc__law_sum.nd rfl (Or.inl (by kernel_rfl)) (v_call k__law_plus (hr.mono (by decide)) tk (by exact rfl) (a_fz (v_var (pe_var (i := 1) rfl (Or.inl (by kernel_rfl)))) (a_fz (v_var (pe_var (i := 2) rfl (Or.inl (by kernel_rfl)))) a_no))))))
    (ss_one (s_ret (v_move (pe_var (i := 1) rfl (Or.inl (by kernel_rfl))))))))
theorem sc__law_minus : FnScope ["one", "other"] ["one", "other"] (defScope (top 46)) := ⟨rfl, rfl, rfl, by decide +kernel, rfl, by decide +kernel, by decide +kernel⟩
theorem ok__law_minus (F : FunD K "_law_minus" "_law_minus" (defArgs (top 46)) (defBody (top 46)) (defScope (top 46)) [] [] f fd) (G : Gt K mg) (k__law_plus : Kn P w K mg base "_law_plus" 2 2 [] [] m__law_plus) : FnOk P w K mg base (L2N.CX P w) (2 + 1) f fd ["one", "other"] (spOf (gB K mg) 2 [] m__law_minus) :=
  fn_by (b__law_minus) F sc__law_minus rfl rfl rfl (by decide) fun cdv A outer s H E τ H0 vs hr tk pa =>
    (ss_one (s_ret (v_call k__law_plus (hr.mono (by decide)) tk (by exact rfl) (a_fz (v_var (pe_var (i := 0) rfl (Or.inl (by kernel_rfl)))) (a_fz (v_o (o_tup (aq_and (q_o (o_bin op_sub d_sub q_int (q_o (o_ix (q_var (pe_var (i := 1) rfl (Or.inl (by kernel_rfl)))) q_int (hu_of hr))))) (aq_and (q_o (o_ix (q_var (pe_var (i := 1) rfl (Or.inl (by kernel_rfl)))) q_int (hu_of hr))) aq_no)))) a_no)))))
theorem sc__law_times : FnScope ["one", "other"] ["one", "other"] (defScope (top 47)) := ⟨rfl, rfl, rfl, by decide +kernel, rfl, by decide +kernel, by decide +kernel⟩
theorem ok__law_times (F : FunD K "_law_times" "_law_times" (defArgs (top 47)) (defBody (top 47)) (defScope (top 47)) [] [] f fd) (G : Gt K mg) (k__law_part : Kn P w K mg base "_law_part" 1 2 [] [] m__law_part) : FnOk P w K mg base (L2N.CX P w) (1 + 1) f fd ["one", "other"] (spOf (gB K mg) 2 [] m__law_times) :=
  fn_by (b__law_times) F sc__law_times rfl rfl rfl (by decide) fun cdv A outer s H E τ H0 vs hr tk pa =>
    (ss_one (s_ret (v_call k__law_part (hr.mono (by decide)) tk (by exact rfl) (a_fz (v_o (o_bin r_mul d_mul (q_o (o_ix (q_var (pe_var (i := 0) rfl (Or.inl (by kernel_rfl)))) q_int (hu_of hr))) (q_o (o_ix (q_var (pe_var (i := 1) rfl (Or.inl (by kernel_rfl)))) q_int (hu_of hr))))) (a_fz (v_o (o_bin r_mul d_mul (q_o (o_ix (q_var (pe_var (i := 0) rfl (Or.inl (by kernel_rfl)))) q_int (hu_of hr))) (q_o (o_ix (q_var (pe_var (i := 1) rfl (Or.inl (by kernel_rfl)))) q_int (hu_of hr))))) a_no)))))
theorem sc__law_plan : FnScope ["pool", "aim", "have"] ["pool", "aim"] (defScope (top 48)) := ⟨rfl, rfl, rfl, by decide +kernel, rfl, by decide +kernel, by decide +kernel⟩
theorem ok__law_plan (F : FunD K "_law_plan" "_law_plan" (defArgs (top 48)) (defBody (top 48)) (defScope (top 48)) [] [] f fd) (G : Gt K mg) (k__law_draw : Kn P w K mg base "_law_draw" 1 2 [0] [] m__law_draw) : FnOk P w K mg base (L2N.CX P w) (1 + 1) f fd ["pool", "aim"] (spOf (gB K mg) 2 [0] m__law_plan) :=
  fn_by (b__law_plan) F sc__law_plan rfl rfl rfl (by decide) fun cdv A outer s H E τ H0 vs hr tk pa =>
    (ss_one (s_ret (v_lc rfl sc__law_plan.nd (i_rng (by exact rfl) G.g_range (v_q q_int) (v_var (pe_var (i := 1) rfl (Or.inr (Or.inl (by kernel_rfl)))))) (blkOk_by (own := [("have", 2)]) (by kernel_rfl)) (fun _ _ _ _ _ _ _ => (g_name sc__law_plan.nd rfl (Or.inl (by kernel_rfl)))) (fun _ _ _ _ _ _ _ => ts_nil) (fun _ _ _ _ _ _ _ => (v_bin r_add d_add (v_q q_int) (v_call k__law_draw (hr.mono (by decide)) takes_no (by exact rfl) (a_sl (pe_var (i := 0) rfl (Or.inr (Or.inl (by kernel_rfl)))) (a_fz (v_o (o_b2 (call_min2 rfl) d_min2 G.g_min rfl (by exact rfl) (q_var (pe_var (i := 2) rfl (Or.inl (by kernel_rfl)))) (q_o (o_bin op_sub d_sub (q_var (pe_var (i := 1) rfl (Or.inr (Or.inl (by kernel_rfl))))) (q_var (pe_var (i := 2) rfl (Or.inl (by kernel_rfl)))))))) a_no))))))))
theorem sc__law_behind : FnScope ["values", "have", "stake", "chance"] ["values", "have", "stake", "chance"] (defScope (top 49)) := ⟨rfl, rfl, rfl, by decide +kernel, rfl, by decide +kernel, by decide +kernel⟩
theorem ok__law_behind (F : FunD K "_law_behind" "_law_behind" (defArgs (top 49)) (defBody (top 49)) (defScope (top 49)) [] [] f fd) (G : Gt K mg) (k__law_plus : Kn P w K mg base "_law_plus" 2 2 [] [] m__law_plus) (k__law_times : Kn P w K mg base "_law_times" 2 2 [] [] m__law_times) : FnOk P w K mg base (L2N.CX P w) (2 + 1) f fd ["values", "have", "stake", "chance"] (spOf (gB K mg) 4 [] m__law_behind) :=
  fn_by (b__law_behind) F sc__law_behind rfl rfl rfl (by decide) fun cdv A outer s H E τ H0 vs hr tk pa =>
    (ss_one (s_ret (v_call k__law_plus (hr.mono (by decide)) tk (by exact rfl) (a_fz (v_call k__law_times (hr.mono (by decide)) tk (by exact rfl) (a_fz (v_var (pe_var (i := 3) rfl (Or.inl (by kernel_rfl)))) (a_fz (v_o (o_ix (q_var (pe_var (i := 0) rfl (Or.inl (by kernel_rfl)))) (q_o (o_bin r_add d_add (q_var (pe_var (i := 1) rfl (Or.inl (by kernel_rfl)))) (q_var (pe_var (i := 2) rfl (Or.inl (by kernel_rfl)))))) (hu_of hr))) a_no))) (a_fz (v_call k__law_times (hr.mono (by decide)) tk (by exact rfl) (a_fz (v_o (o_tup (aq_and (q_o (o_bin op_sub d_sub (q_o (o_ix (q_var (pe_var (i := 3) rfl (Or.inl (by kernel_rfl)))) q_int (hu_of hr))) (q_o (o_ix (q_var (pe_var (i := 3) rfl (Or.inl (by kernel_rfl)))) q_int (hu_of hr))))) (aq_and (q_o (o_ix (q_var (pe_var (i := 3) rfl (Or.inl (by kernel_rfl)))) q_int (hu_of hr))) aq_no)))) (a_fz (v_o (o_ix (q_var (pe_var (i := 0) rfl (Or.inl (by kernel_rfl)))) (q_o (o_bin op_sub d_sub (q_var (pe_var (i := 1) rfl (Or.inl (by kernel_rfl)))) (q_var (pe_var (i := 2) rfl (Or.inl (by kernel_rfl)))))) (hu_of hr))) a_no))) a_no)))))
theorem sc__law_is_plan : FnScope ["aim", "plan", "chance", "values", "have"] ["aim", "plan", "chance", "values"] (defScope (top 50)) := ⟨rfl, rfl, rfl, by decide +kernel, rfl, by decide +kernel, by decide +kernel⟩
theorem ok__law_is_plan (F : FunD K "_law_is_plan" "_law_is_plan" (defArgs (top 50)) (defBody (top 50)) (defScope (top 50)) [] [] f fd) (G : Gt K mg) (k__law_behind : Kn P w K mg base "_law_behind" 3 4 [] [] m__law_behind) : FnOk P w K mg base (L2N.CX P w) (3 + 1) f fd ["aim", "plan", "chance", "values"] (spOf (gB K mg) 4 [] m__law_is_plan) :=
  fn_by (b__law_is_plan) F sc__law_is_plan rfl rfl rfl (by decide) fun cdv A outer s H E τ H0 vs hr tk pa =>
    (ss_cons (s_if ((w_or (b_cmp (op_neD (hu_of1 hr)) d_ne (q_o (o_b1 r_len d_len G.g_len rfl (by exact rfl) (q_var (pe_var (i := 3) rfl (Or.inr (Or.inl (by kernel_rfl))))))) (q_o (o_bin r_add d_add (q_var (pe_var (i := 0) rfl (Or.inl (by kernel_rfl)))) q_int))) (w_or (b_cmp (op_neD (hu_of1 hr)) d_ne (q_o (o_ix (q_var (pe_var (i := 3) rfl (Or.inr (Or.inl (by kernel_rfl))))) q_int (hu_of hr))) (q_o (o_tup (aq_and q_int (aq_and q_int aq_no))))) (w_or1 (b_cmp (op_neD (hu_of1 hr)) d_ne (q_o (o_ix (q_var (pe_var (i := 3) rfl (Or.inr (Or.inl (by kernel_rfl))))) (q_var (pe_var (i := 0) rfl (Or.inl (by kernel_rfl)))) (hu_of hr))) (q_o (o_tup (aq_and q_int (aq_and q_int aq_no))))))))).pt
    (ss_one (s_ret (v_q q_bl)))
    ss_nil)
    (ss_one (s_ret (v_cmp (op_eqD (hu_of1 hr)) d_eq (v_b1 r_len d_len G.g_len rfl (by exact rfl) (v_lc rfl sc__law_is_plan.nd (i_rng (by exact rfl) G.g_range (v_q q_int) (v_var (pe_var (i := 0) rfl (Or.inl (by kernel_rfl))))) (blkOk_by (own := [("have", 4)]) (by kernel_rfl)) (fun _ _ _ _ _ _ _ => (g_name sc__law_is_plan.nd rfl (Or.inl (by kernel_rfl)))) (fun _ _ _ _ _ _ _ => (ts_one (b_vcmp (op_neD (hu_of1 hr)) d_ne (v_o (o_ix (q_var (pe_var (i := 3) rfl (Or.inr (Or.inl (by kernel_rfl))))) (q_var (pe_var (i := 4) rfl (Or.inl (by kernel_rfl)))) (hu_of hr))) (v_call k__law_behind (hr.mono (by decide)) takes_no (by exact rfl) (a_fz (v_var (pe_var (i := 3) rfl (Or.inr (Or.inl (by kernel_rfl))))) (a_fz (v_var (pe_var (i := 4) rfl (Or.inl (by kernel_rfl)))) (a_fz (v_o (o_ix (q_var (pe_var (i := 1) rfl (Or.inr (Or.inl (by kernel_rfl))))) (q_o (o_bin op_sub d_sub (q_var (pe_var (i := 4) rfl (Or.inl (by kernel_rfl)))) q_int)) (hu_of hr))) (a_fz (v_var (pe_var (i := 2) rfl (Or.inr (Or.inl (by kernel_rfl))))) a_no)))))))) (fun _ _ _ _ _ _ _ => (v_var (pe_var (i := 4) rfl (Or.inl (by kernel_rfl))))))) (v_q q_int)))))
theorem sc__law_better : FnScope ["aim", "chance", "values", "have", "stake"] ["aim", "chance", "values"] (defScope (top 51)) := ⟨rfl, rfl, rfl, by decide +kernel, rfl, by decide +kernel, by decide +kernel⟩
theorem ok__law_better (F : FunD K "_law_better" "_law_better" (defArgs (top 51)) (defBody (top 51)) (defScope (top 51)) [] [] f fd) (G : Gt K mg) (k__law_behind : Kn P w K mg base "_law_behind" 3 4 [] [] m__law_behind) (k__law_less : Kn P w K mg base "_law_less" 1 2 [] [] m__law_less) : FnOk P w K mg base (L2N.CX P w) (3 + 1) f fd ["aim", "chance", "values"] (spOf (gB K mg) 3 [] m__law_better) :=
  fn_by (b__law_better) F sc__law_better rfl rfl rfl (by decide) fun cdv A outer s H E τ H0 vs hr tk pa =>
    (ss_cons (s_for pa rfl (i_rng (by exact rfl) G.g_range (v_q q_int) (v_var (pe_var (i := 0) rfl (Or.inl (by kernel_rfl))))) (g_name sc__law_better.nd rfl (Or.inl (by kernel_rfl)))
    (ss_one (s_for pa rfl (i_rng (by exact rfl) G.g_range (v_q q_int) (v_o (o_bin r_add d_add (q_o (o_b2 (call_min2 rfl) d_min2 G.g_min rfl (by exact rfl) (q_var (pe_var (i := 3) rfl (Or.inl (by kernel_rfl)))) (q_o (o_bin op_sub d_sub (q_var (pe_var (i := 0) rfl (Or.inl (by kernel_rfl)))) (q_var (pe_var (i := 3) rfl (Or.inl (by kernel_rfl)))))))) q_int))) (g_name sc__law_better.nd rfl (Or.inl (by kernel_rfl)))
      (ss_one (s_if (b_v (v_call k__law_less (hr.mono (by decide)) tk (by exact rfl) (a_fz (v_o (o_ix (q_var (pe_var (i := 2) rfl (Or.inl (by kernel_rfl)))) (q_var (pe_var (i := 3) rfl (Or.inl (by kernel_rfl)))) (hu_of hr))) (a_fz (v_call k__law_behind (hr.mono (by decide)) tk (by exact rfl) (a_fz (v_var (pe_var (i := 2) rfl (Or.inl (by kernel_rfl)))) (a_fz (v_var (pe_var (i := 3) rfl (Or.inl (by kernel_rfl)))) (a_fz (v_var (pe_var (i := 4) rfl (Or.inl (by kernel_rfl)))) (a_fz (v_var (pe_var (i := 1) rfl (Or.inl (by kernel_rfl)))) a_no))))) a_no))))
        (ss_one (s_ret (v_o (o_tup (aq_and (q_var (pe_var (i := 3) rfl (Or.inl (by kernel_rfl)))) (aq_and (q_var (pe_var (i := 4) rfl (Or.inl (by kernel_rfl)))) aq_no))))))
        ss_nil)))))
    (ss_one (s_ret (v_q q_non))))
theorem sc__law_plans : FnScope ["aim", "found", "have", "longer", "row", "stake"] ["aim"] (defScope (top 52)) := ⟨rfl, rfl, rfl, by decide +kernel, rfl, by decide +kernel, by decide +kernel⟩
theorem ok__law_plans (F : FunD K "_law_plans" "_law_plans" (defArgs (top 52)) (defBody (top 52)) (defScope (top 52)) [] [] f fd) (G : Gt K mg) : FnOk P w K mg base (L2N.CX P w) (0 + 1) f fd ["aim"] (spOf (gB K mg) 1 [] m__law_plans) :=
  fn_by (b__law_plans) F sc__law_plans rfl rfl rfl (by decide) fun cdv A outer s H E τ H0 vs hr tk pa =>
    (ss_cons (s_set (i := 1) sc__law_plans.nd rfl (Or.inl (by kernel_rfl)) (v_o (o_lst (aq_and (q_o (o_lst aq_no)) aq_no))))
    (ss_cons (s_for pa rfl (i_rng (by exact rfl) G.g_range (v_q q_int) (v_var (pe_var (i := 0) rfl (Or.inl (by kernel_rfl))))) (g_name sc__law_plans.nd rfl (Or.inl (by kernel_rfl)))
    (ss_cons (s_set (i := 3) sc__law_plans.nd rfl (Or.inl (by kernel_rfl)) (v_o (o_lst aq_no)))
      (ss_cons (s_for pa rfl (i_seq (v_var (pe_var (i := 1) rfl (Or.inl (by kernel_rfl))))) (g_name sc__law_plans.nd rfl (Or.inr (by kernel_rfl)))
      (ss_one (s_drop (v_lm lm_extend PySem.F.slot_list_extend rfl (pe_var (i := 3) rfl (Or.inl (by kernel_rfl))) (a_fz (v_lc rfl sc__law_plans.nd (i_rng (by exact rfl) G.g_range (v_q q_int) (v_o (o_bin r_add d_add (q_o (o_b2 (call_min2 rfl) d_min2 G.g_min rfl (by exact rfl) (q_var (pe_var (i := 2) rfl (Or.inl (by kernel_rfl)))) (q_o (o_bin op_sub d_sub (q_var (pe_var (i := 0) rfl (Or.inl (by kernel_rfl)))) (q_var (pe_var (i := 2) rfl (Or.inl (by kernel_rfl)))))))) q_int))) (blkOk_by (own := [("stake", 5)]) (by kernel_rfl)) (fun _ _ _ _ _ _ _ => (g_name sc__law_plans.nd rfl (Or.inl (by kernel_rfl)))) (fun _ _ _ _ _ _ _ => ts_nil) (fun _ _ _ _ _ _ _ => (v_o (o_bin r_add d_add (q_var (pe_var (i := 4) rfl (Or.inr (Or.inl (by kernel_rfl))))) (q_o (o_lst (aq_and (q_var (pe_var (i := 5) rfl (Or.inl (by kernel_rfl)))) aq_no))))))) a_no)))))
      (ss_one (s_set (i := 1) sc__law_plans.nd rfl (Or.inl (by kernel_rfl)) (v_var (pe_var (i := 3) rfl (Or.inl (by kernel_rfl)))))))))
    (ss_one (s_ret (v_move (pe_var (i := 1) rfl (Or.inl (by kernel_rfl))))))))
theorem sc_law : FnScope ["script", "pool", "aim", "chance", "plan", "top", "others", "other", "k", "values", "right", "have"] ["script"] (defScope (top 53)) := ⟨rfl, rfl, rfl, by decide +kernel, rfl, by decide +kernel, by decide +kernel⟩
theorem ok_law (F : FunD K "law" "law" (defArgs (top 53)) (defBody (top 53)) (defScope (top 53)) [] [] f fd) (G : Gt K mg) (k__law_better : Kn P w K mg base "_law_better" 4 3 [] [] m__law_better) (k__law_draw : Kn P w K mg base "_law_draw" 1 2 [0] [] m__law_draw) (k__law_is_plan : Kn P w K mg base "_law_is_plan" 4 4 [] [] m__law_is_plan) (k__law_less : Kn P w K mg base "_law_less" 1 2 [] [] m__law_less) (k__law_part : Kn P w K mg base "_law_part" 1 2 [] [] m__law_part) (k__law_pick : Kn P w K mg base "_law_pick" 2 2 [0] [] m__law_pick) (k__law_plan : Kn P w K mg base "_law_plan" 2 2 [0] [] m__law_plan) (k__law_plans : Kn P w K mg base "_law_plans" 1 1 [] [] m__law_plans) (k__law_pool : Kn P w K mg base "_law_pool" 1 1 [] [] m__law_pool) (k__law_same : Kn P w K mg base "_law_same" 8 2 [] [] (m__law_same 8)) (k_best : Kn P w K mg base "best" 7 2 [] [] m_best) (k_better : Kn P w K mg base "better" 6 3 [] [] m_better) (k_bold : Kn P w K mg base "bold" 3 1 [] [] m_bold) (k_chances : Kn P w K mg base "chances" 5 3 [] [] m_chances) (k_judge_best : Kn P w K mg base "judge_best" 7 4 [] [] m_judge_best) (k_timid : Kn P w K mg base "timid" 3 1 [] [] m_timid) : FnOk P w K mg base (L2N.CX P w) (8 + 1) f fd ["script"] (spOf (gB K mg) 1 [] m_law) :=
  fn_by (b_law) F sc_law rfl rfl rfl (by decide) fun cdv A outer s H E τ H0 vs hr tk pa =>
    (ss_cons (s_set (i := 1) sc_law.nd rfl (Or.inr (by kernel_rfl)) (v_call k__law_pool (hr.mono (by decide)) tk (by exact rfl) (a_fz (v_var (pe_var (i := 0) rfl (Or.inl (by kernel_rfl)))) a_no)))
    (ss_cons (s_set (i := 2) sc_law.nd rfl (Or.inr (by kernel_rfl)) (v_bin r_add d_add (v_q q_int) (v_call k__law_draw (hr.mono (by decide)) tk (by exact rfl) (a_sl (pe_var (i := 1) rfl (Or.inr (Or.inl (by kernel_rfl)))) (a_fz (v_q q_int) a_no)))))
    (ss_cons (s_set (i := 3) sc_law.nd rfl (Or.inl (by kernel_rfl)) (v_call k__law_pick (hr.mono (by decide)) tk (by exact rfl) (a_sl (pe_var (i := 1) rfl (Or.inr (Or.inl (by kernel_rfl)))) (a_fz (v_o (o_lst (aq_and (q_o (o_tup (aq_and q_int (aq_and q_int aq_no)))) (aq_and (q_o (o_tup (aq_and q_int (aq_and q_int aq_no)))) (aq_and (q_o (o_tup (aq_and q_int (aq_and q_int aq_no)))) (aq_and (q_o (o_tup (aq_and q_int (aq_and q_int aq_no)))) (aq_and (q_o (o_tup (aq_and q_int (aq_and q_int aq_no)))) aq_no))))))) a_no))))
    (ss_cons (s_set (i := 4) sc_law.nd rfl (Or.inr (by kernel_rfl)) (v_call k_best (hr.mono (by decide)) tk (by exact rfl) (a_fz (v_var (pe_var (i := 2) rfl (Or.inr (Or.inl (by kernel_rfl))))) (a_fz (v_var (pe_var (i := 3) rfl (Or.inl (by kernel_rfl)))) a_no))))
    (ss_cons (s_if ((w_or (b_cmp (op_neD (hu_of1 hr)) d_ne (q_o (o_b1 r_len d_len G.g_len rfl (by exact rfl) (q_var (pe_var (i := 4) rfl (Or.inr (Or.inl (by kernel_rfl))))))) (q_o (o_bin op_sub d_sub (q_var (pe_var (i := 2) rfl (Or.inr (Or.inl (by kernel_rfl))))) q_int))) (w_or1 (b_vcmp r_gt d_gt (v_b1 r_len d_len G.g_len rfl (by exact rfl) (v_lc rfl sc_law.nd (i_rng (by exact rfl) G.g_range (v_q q_int) (v_var (pe_var (i := 2) rfl (Or.inr (Or.inl (by kernel_rfl)))))) (blkOk_by (own := [("have", 11)]) (by kernel_rfl)) (fun _ _ _ _ _ _ _ => (g_name sc_law.nd rfl (Or.inl (by kernel_rfl)))) (fun _ _ _ _ _ _ _ => (ts_one (b_not (b_ch r_le r_le d_le d_le q_int (q_o (o_ix (q_var (pe_var (i := 4) rfl (Or.inr (Or.inl (by kernel_rfl))))) (q_o (o_bin op_sub d_sub (q_var (pe_var (i := 11) rfl (Or.inl (by kernel_rfl)))) q_int)) (hu_of hr))) (q_o (o_b2 (call_min2 rfl) d_min2 G.g_min rfl (by exact rfl) (q_var (pe_var (i := 11) rfl (Or.inl (by kernel_rfl)))) (q_o (o_bin op_sub d_sub (q_var (pe_var (i := 2) rfl (Or.inr (Or.inl (by kernel_rfl))))) (q_var (pe_var (i := 11) rfl (Or.inl (by kernel_rfl)))))))))))) (fun _ _ _ _ _ _ _ => (v_var (pe_var (i := 11) rfl (Or.inl (by kernel_rfl))))))) (v_q q_int))))).pt
    (ss_one (s_ret (v_q q_bl)))
    ss_nil)
    (ss_cons (s_set (i := 5) sc_law.nd rfl (Or.inr (by kernel_rfl)) (v_call k_chances (hr.mono (by decide)) tk (by exact rfl) (a_fz (v_var (pe_var (i := 2) rfl (Or.inr (Or.inl (by kernel_rfl))))) (a_fz (v_o (o_t1 call_list_of d_list G.g_list rfl (by exact rfl) (q_var (pe_var (i := 4) rfl (Or.inr (Or.inl (by kernel_rfl))))))) (a_fz (v_var (pe_var (i := 3) rfl (Or.inl (by kernel_rfl)))) a_no)))))
    (ss_cons (s_if ((w_or (b_not (b_v (v_call k__law_is_plan (hr.mono (by decide)) tk (by exact rfl) (a_fz (v_var (pe_var (i := 2) rfl (Or.inr (Or.inl (by kernel_rfl))))) (a_fz (v_var (pe_var (i := 4) rfl (Or.inr (Or.inl (by kernel_rfl))))) (a_fz (v_var (pe_var (i := 3) rfl (Or.inl (by kernel_rfl)))) (a_fz (v_var (pe_var (i := 5) rfl (Or.inr (Or.inl (by kernel_rfl))))) a_no))))))) (w_or (b_vnotN (v_call k__law_better (hr.mono (by decide)) tk (by exact rfl) (a_fz (v_var (pe_var (i := 2) rfl (Or.inr (Or.inl (by kernel_rfl))))) (a_fz (v_var (pe_var (i := 3) rfl (Or.inl (by kernel_rfl)))) (a_fz (v_var (pe_var (i := 5) rfl (Or.inr (Or.inl (by kernel_rfl))))) a_no))))) (w_or1 (b_vcmp op_notBl d_notB (v_call k_judge_best (hr.mono (by decide)) tk (by exact rfl) (a_fz (v_var (pe_var (i := 2) rfl (Or.inr (Or.inl (by kernel_rfl))))) (a_fz (v_o (o_t1 call_list_of d_list G.g_list rfl (by exact rfl) (q_var (pe_var (i := 4) rfl (Or.inr (Or.inl (by kernel_rfl))))))) (a_fz (v_var (pe_var (i := 3) rfl (Or.inl (by kernel_rfl)))) (a_fz (v_o (o_t1 call_list_of d_list G.g_list rfl (by exact rfl) (q_var (pe_var (i := 5) rfl (Or.inr (Or.inl (by kernel_rfl))))))) a_no))))) (v_q q_bl)))))).pt
    (ss_one (s_ret (v_q q_bl)))
    ss_nil)
    (ss_cons (s_set (i := 6) sc_law.nd rfl (Or.inl (by kernel_rfl)) (v_if (b_cmp r_lt d_lt (q_var (pe_var (i := 2) rfl (Or.inr (Or.inl (by kernel_rfl))))) q_int) (v_call k__law_plans (hr.mono (by decide)) tk (by exact rfl) (a_fz (v_var (pe_var (i := 2) rfl (Or.inr (Or.inl (by kernel_rfl))))) a_no)) (v_lc rfl sc_law.nd (i_rng0 (by exact rfl) G.g_range (v_q q_int)) (blkOk_by (own := [("k", 8)]) (by kernel_rfl)) (fun _ _ _ _ _ _ _ => (g_name sc_law.nd rfl (Or.inl (by kernel_rfl)))) (fun _ _ _ _ _ _ _ => ts_nil) (fun _ _ _ _ _ _ _ => (v_call k__law_plan (hr.mono (by decide)) takes_no (by exact rfl) (a_sl (pe_var (i := 1) rfl (Or.inr (Or.inl (by kernel_rfl)))) (a_fz (v_var (pe_var (i := 2) rfl (Or.inr (Or.inl (by kernel_rfl))))) a_no)))))))
    (ss_cons (s_for pa rfl (i_seq (v_o (o_cut (q_var (pe_var (i := 6) rfl (Or.inl (by kernel_rfl)))) p_no (p_so q_int)))) (g_name sc_law.nd rfl (Or.inl (by kernel_rfl)))
    (ss_cons (s_set (i := 9) sc_law.nd rfl (Or.inr (by kernel_rfl)) (v_call k_chances (hr.mono (by decide)) tk (by exact rfl) (a_fz (v_var (pe_var (i := 2) rfl (Or.inr (Or.inl (by kernel_rfl))))) (a_fz (v_o (o_t1 call_list_of d_list G.g_list rfl (by exact rfl) (q_var (pe_var (i := 7) rfl (Or.inl (by kernel_rfl)))))) (a_fz (v_var (pe_var (i := 3) rfl (Or.inl (by kernel_rfl)))) a_no)))))
      (ss_cons (s_if (b_vcmp r_gt d_gt (v_b1 r_len d_len G.g_len rfl (by exact rfl) (v_lc rfl sc_law.nd (i_rng0 (by exact rfl) G.g_range (v_o (o_bin r_add d_add (q_var (pe_var (i := 2) rfl (Or.inr (Or.inl (by kernel_rfl))))) q_int))) (blkOk_by (own := [("have", 11)]) (by kernel_rfl)) (fun _ _ _ _ _ _ _ => (g_name sc_law.nd rfl (Or.inl (by kernel_rfl)))) (fun _ _ _ _ _ _ _ => (ts_one (b_v (v_call k__law_less (hr.mono (by decide)) takes_no (by exact rfl) (a_fz (v_o (o_ix (q_var (pe_var (i := 5) rfl (Or.inr (Or.inl (by kernel_rfl))))) (q_var (pe_var (i := 11) rfl (Or.inl (by kernel_rfl)))) (hu_of hr))) (a_fz (v_o (o_ix (q_var (pe_var (i := 9) rfl (Or.inr (Or.inl (by kernel_rfl))))) (q_var (pe_var (i := 11) rfl (Or.inl (by kernel_rfl)))) (hu_of hr))) a_no)))))) (fun _ _ _ _ _ _ _ => (v_var (pe_var (i := 11) rfl (Or.inl (by kernel_rfl))))))) (v_q q_int))
      (ss_one (s_ret (v_q q_bl)))
      ss_nil)
      (ss_cons (s_if (b_not (b_v (v_call k__law_same (hr.mono (by decide)) tk (by exact rfl) (a_fz (v_call k_better (hr.mono (by decide)) tk (by exact rfl) (a_fz (v_var (pe_var (i := 2) rfl (Or.inr (Or.inl (by kernel_rfl))))) (a_fz (v_var (pe_var (i := 3) rfl (Or.inl (by kernel_rfl)))) (a_fz (v_o (o_t1 call_list_of d_list G.g_list rfl (by exact rfl) (q_var (pe_var (i := 9) rfl (Or.inr (Or.inl (by kernel_rfl))))))) a_no)))) (a_fz (v_call k__law_better (hr.mono (by decide)) tk (by exact rfl) (a_fz (v_var (pe_var (i := 2) rfl (Or.inr (Or.inl (by kernel_rfl))))) (a_fz (v_var (pe_var (i := 3) rfl (Or.inl (by kernel_rfl)))) (a_fz (v_var (pe_var (i := 9) rfl (Or.inr (Or.inl (by kernel_rfl))))) a_no)))) a_no)))))
      (ss_one (s_ret (v_q q_bl)))
      ss_nil)
      (ss_one (s_if (b_not (b_v (v_call k__law_same (hr.mono (by decide)) tk (by exact rfl) (a_fz (v_call k_judge_best (hr.mono (by decide)) tk (by exact rfl) (a_fz (v_var (pe_var (i := 2) rfl (Or.inr (Or.inl (by kernel_rfl))))) (a_fz (v_o (o_t1 call_list_of d_list G.g_list rfl (by exact rfl) (q_var (pe_var (i := 7) rfl (Or.inl (by kernel_rfl)))))) (a_fz (v_var (pe_var (i := 3) rfl (Or.inl (by kernel_rfl)))) (a_fz (v_o (o_t1 call_list_of d_list G.g_list rfl (by exact rfl) (q_var (pe_var (i := 9) rfl (Or.inr (Or.inl (by kernel_rfl))))))) a_no))))) (a_fz (v_o (o_cmp (op_eqD (hu_of1 hr)) d_eq (q_var (pe_var (i := 9) rfl (Or.inr (Or.inl (by kernel_rfl))))) (q_var (pe_var (i := 5) rfl (Or.inr (Or.inl (by kernel_rfl))))))) a_no)))))
      (ss_one (s_ret (v_q q_bl)))
      ss_nil))))))
    (ss_cons (s_for pa rfl (i_rng0 (by exact rfl) G.g_range (v_q q_int)) (g_name sc_law.nd rfl (Or.inl (by kernel_rfl)))
    (ss_cons (s_set (i := 7) sc_law.nd rfl (Or.inl (by kernel_rfl)) (v_call k__law_plan (hr.mono (by decide)) tk (by exact rfl) (a_sl (pe_var (i := 1) rfl (Or.inr (Or.inl (by kernel_rfl)))) (a_fz (v_var (pe_var (i := 2) rfl (Or.inr (Or.inl (by kernel_rfl))))) a_no))))
      (ss_cons (s_set (i := 9) sc_law.nd rfl (Or.inr (by kernel_rfl)) (v_call k__law_pick (hr.mono (by decide)) tk (by exact rfl) (a_sl (pe_var (i := 1) rfl (Or.inr (Or.inl (by kernel_rfl)))) (a_fz (v_lst (a_fz (v_var (pe_var (i := 5) rfl (Or.inr (Or.inl (by kernel_rfl))))) (a_fz (v_lc rfl sc_law.nd (i_rng0 (by exact rfl) G.g_range (v_o (o_bin r_add d_add (q_var (pe_var (i := 2) rfl (Or.inr (Or.inl (by kernel_rfl))))) q_int))) (blkOk_by (own := [("have", 11)]) (by kernel_rfl)) (fun _ _ _ _ _ _ _ => (g_name sc_law.nd rfl (Or.inl (by kernel_rfl)))) (fun _ _ _ _ _ _ _ => ts_nil) (fun _ _ _ _ _ _ _ => (v_call k__law_part (hr.mono (by decide)) takes_no (by exact rfl) (a_fz (v_var (pe_var (i := 11) rfl (Or.inl (by kernel_rfl)))) (a_fz (v_var (pe_var (i := 2) rfl (Or.inr (Or.inl (by kernel_rfl))))) a_no))))) a_no))) a_no))))
      (ss_cons (s_set (i := 10) sc_law.nd rfl (Or.inl (by kernel_rfl)) (v_and (v_call k__law_is_plan (hr.mono (by decide)) tk (by exact rfl) (a_fz (v_var (pe_var (i := 2) rfl (Or.inr (Or.inl (by kernel_rfl))))) (a_fz (v_var (pe_var (i := 7) rfl (Or.inl (by kernel_rfl)))) (a_fz (v_var (pe_var (i := 3) rfl (Or.inl (by kernel_rfl)))) (a_fz (v_var (pe_var (i := 9) rfl (Or.inr (Or.inl (by kernel_rfl))))) a_no))))) (v_one (v_isN (v_call k__law_better (hr.mono (by decide)) tk (by exact rfl) (a_fz (v_var (pe_var (i := 2) rfl (Or.inr (Or.inl (by kernel_rfl))))) (a_fz (v_var (pe_var (i := 3) rfl (Or.inl (by kernel_rfl)))) (a_fz (v_var (pe_var (i := 9) rfl (Or.inr (Or.inl (by kernel_rfl))))) a_no))))))))
      (ss_one (s_if (b_not (b_v (v_call k__law_same (hr.mono (by decide)) tk (by exact rfl) (a_fz (v_call k_judge_best (hr.mono (by decide)) tk (by exact rfl) (a_fz (v_var (pe_var (i := 2) rfl (Or.inr (Or.inl (by kernel_rfl))))) (a_fz (v_o (o_t1 call_list_of d_list G.g_list rfl (by exact rfl) (q_var (pe_var (i := 7) rfl (Or.inl (by kernel_rfl)))))) (a_fz (v_var (pe_var (i := 3) rfl (Or.inl (by kernel_rfl)))) (a_fz (v_o (o_t1 call_list_of d_list G.g_list rfl (by exact rfl) (q_var (pe_var (i := 9) rfl (Or.inr (Or.inl (by kernel_rfl))))))) a_no))))) (a_fz (v_var (pe_var (i := 10) rfl (Or.inl (by kernel_rfl)))) a_no)))))
      (ss_one (s_ret (v_q q_bl)))
      ss_nil))))))
    (ss_cons (s_if ((w_and (b_not (b_v (v_call k__law_less (hr.mono (by decide)) tk (by exact rfl) (a_fz (v_o (o_tup (aq_and q_int (aq_and q_int aq_no)))) (a_fz (v_var (pe_var (i := 3) rfl (Or.inl (by kernel_rfl)))) a_no))))) (w_and1 (b_vcmp (op_neD (hu_of1 hr)) d_ne (v_call k_chances (hr.mono (by decide)) tk (by exact rfl) (a_fz (v_var (pe_var (i := 2) rfl (Or.inr (Or.inl (by kernel_rfl))))) (a_fz (v_call k_bold (hr.mono (by decide)) tk (by exact rfl) (a_fz (v_var (pe_var (i := 2) rfl (Or.inr (Or.inl (by kernel_rfl))))) a_no)) (a_fz (v_var (pe_var (i := 3) rfl (Or.inl (by kernel_rfl)))) a_no)))) (v_var (pe_var (i := 5) rfl (Or.inr (Or.inl (by kernel_rfl))))))))).pt
    (ss_one (s_ret (v_q q_bl)))
    ss_nil)
    (ss_one (s_ret (v_orB (v_call k__law_less (hr.mono (by decide)) tk (by exact rfl) (a_fz (v_var (pe_var (i := 3) rfl (Or.inl (by kernel_rfl)))) (a_fz (v_o (o_tup (aq_and q_int (aq_and q_int aq_no)))) a_no))) (v_one (v_cmp (op_eqD (hu_of1 hr)) d_eq (v_call k_chances (hr.mono (by decide)) tk (by exact rfl) (a_fz (v_var (pe_var (i := 2) rfl (Or.inr (Or.inl (by kernel_rfl))))) (a_fz (v_call k_timid (hr.mono (by decide)) tk (by exact rfl) (a_fz (v_var (pe_var (i := 2) rfl (Or.inr (Or.inl (by kernel_rfl))))) a_no)) (a_fz (v_var (pe_var (i := 3) rfl (Or.inl (by kernel_rfl)))) a_no)))) (v_var (pe_var (i := 5) rfl (Or.inr (Or.inl (by kernel_rfl)))))))))))))))))))))
end
end K61
namespace K61
open PySem PySem.Spec PyProof.Rows L2 VS
noncomputable section
def fb_common : TSt :=
    (sSeq (sWhile 20000 (bC (oV (o2 dGt (qVar 1) (qC (.int 0))))) (sPar 0 1 (aFz (vVarF 1) (aFz (oV (o2 dMod (qVar 0) (qVar 1))) aNo)))) (sRet (vVarF 0)))
def t_common : List S → FR := fnSem 2 2 [] fb_common
theorem tw_common : m_common = t_common := by
  simp only [m_common, t_common, b_common, fb_common, vVar_F, vC1_eq, vC2_eq, vC3_eq, vC4_eq, vC5_eq]
theorem tw_part : m_part = g_part := (show m_part = c_part from rfl).trans g_part_eq
theorem tw_is_part : m_is_part = g_is_part := (show m_is_part = c_is_part from rfl).trans g_is_part_eq
theorem tw_plus : m_plus = g_plus := (show m_plus = c_plus from rfl).trans g_plus_eq
theorem tw_minus : m_minus = g_minus := (show m_minus = c_minus from rfl).trans g_minus_eq
theorem tw_times : m_times = g_times := (show m_times = c_times from rfl).trans g_times_eq
theorem tw_is_less : m_is_less = g_is_less := (show m_is_less = c_is_less from rfl).trans g_is_less_eq
theorem tw_is_number : m_is_number = g_is_number := (show m_is_number = c_is_number from rfl).trans g_is_number_eq
theorem tw_checked_number : m_checked_number = g_checked_number := (show m_checked_number = c_checked_number from rfl).trans g_checked_number_eq
def fb_checked_chance : TSt :=
    (sSeq (sIf (bOr (bNot (bV (vC1 g_is_part (vVarF 0)))) (bOr (bC (oV (o2 dLt (oQ (o2 dSub1 (qVar 0) (qC (.int 0)))) (qC (.int 0))))) (bC (oV (o2 dGt (oQ (o2 dSub1 (qVar 0) (qC (.int 0)))) (oQ (o2 dSub1 (qVar 0) (qC (.int 1))))))))) (sRaise "InvalidPaper") sPass) (sRet (vVarF 0)))
def t_checked_chance : List S → FR := fnSem 1 1 [] fb_checked_chance
theorem tw_checked_chance : m_checked_chance = t_checked_chance := by
  simp only [m_checked_chance, t_checked_chance, b_checked_chance, fb_checked_chance, vVar_F, vC1_eq, vC2_eq, vC3_eq, vC4_eq, vC5_eq, tw_is_part]
def fb_rest : TSt :=
    (sRet (vC2 g_minus (oV (oTup (qAnd (qC (.int 1)) (qAnd (qC (.int 1)) qNo)))) (vC1 t_checked_chance (vVarF 0))))
def t_rest : List S → FR := fnSem 1 1 [] fb_rest
theorem tw_rest : m_rest = t_rest := by
  simp only [m_rest, t_rest, b_rest, fb_rest, vVar_F, vC1_eq, vC2_eq, vC3_eq, vC4_eq, vC5_eq, tw_checked_chance, tw_minus]
def fb_checked_lines : TSt :=
    (sSeq (sIf (bC (oV (o2 dGt (oQ (o1 dLen (qVar 0))) (qC (.int 40))))) (sRaise "TooMany") sPass) (sSeq (sFor (iSeq (vVarF 0)) (aName 1) (sIf (bOr (bC (oV (o2 dNe (oQ (o1 dLen (qVar 1))) (oQ (o2 dAdd (oQ (o1 dLen (qVar 0))) (qC (.int 1))))))) (bV (vLc [2] (iSeq (vVarF 1)) (aName 2) (bNot (bV (vC1 g_is_part (vVarF 2)))) (vVarF 2)))) (sRaise "InvalidPaper") sPass)) (sRet (vLc [1] (iSeq (vVarF 0)) (aName 1) bYes (oV (o1 dList (qVar 1)))))))
def t_checked_lines : List S → FR := fnSem 3 1 [] fb_checked_lines
theorem tw_checked_lines : m_checked_lines = t_checked_lines := by
  simp only [m_checked_lines, t_checked_lines, b_checked_lines, fb_checked_lines, vVar_F, vC1_eq, vC2_eq, vC3_eq, vC4_eq, vC5_eq, tw_is_part]
theorem tw_over : m_over = g_over := (show m_over = c_over from rfl).trans g_over_eq
def fb_solve : TSt :=
    (sSeq (sSet 1 (vC1 t_checked_lines (vVarF 0))) (sSeq (sSet 2 (oV (o1 dLen (qVar 1)))) (sSeq (sFor (iRng0 (vVarF 2)) (aName 3) (sSeq (sSet 4 (vLc [6] (iRng (vVarF 3) (vVarF 2)) (aName 6) (bC (oV (o2 dNe (oQ (o2 dSub1 (oQ (o2 dSub1 (oQ (o2 dSub1 (qVar 1) (qVar 6))) (qVar 3))) (qC (.int 0)))) (qC (.int 0))))) (vVarF 6))) (sSeq (sIf (bNot (bQ (qVar 4))) (sRet (vQ (qC .non))) sPass) (sSeq (sSet 5 (vLm lmPopAt 1 (aFz (oV (o2 dSub1 (qVar 4) (qC (.int 0)))) aNo))) (sSeq (sSet 5 (vLc [8] (iSeq (vVarF 5)) (aName 8) bYes (vC2 g_over (vVarF 8) (oV (o2 dSub1 (qVar 5) (qVar 3)))))) (sSeq (sDrop (vLm lmInsert 1 (aFz (vVarF 3) (aFz (vVarF 5) aNo)))) (sFor (iRng0 (vVarF 2)) (aName 6) (sIf (bAnd (bC (oV (o2 dNe (qVar 6) (qVar 3)))) (bC (oV (o2 dNe (oQ (o2 dSub1 (oQ (o2 dSub1 (oQ (o2 dSub1 (qVar 1) (qVar 6))) (qVar 3))) (qC (.int 0)))) (qC (.int 0)))))) (sSeq (sSet 9 (oV (o2 dSub1 (oQ (o2 dSub1 (qVar 1) (qVar 6))) (qVar 3)))) (sPut 1 (vLc [10] (iRng0 (oV (o2 dAdd (qVar 2) (qC (.int 1))))) (aName 10) bYes (vC2 g_minus (oV (o2 dSub1 (oQ (o2 dSub1 (qVar 1) (qVar 6))) (qVar 10))) (vC2 g_times (vVarF 9) (oV (o2 dSub1 (qVar 5) (qVar 10)))))) (qVar 6))) sPass)))))))) (sRet (vLc [7] (iSeq (vVarF 1)) (aName 7) bYes (oV (o2 dSub1 (qVar 7) (qVar 2))))))))
def t_solve : List S → FR := fnSem 11 1 [] fb_solve
theorem tw_solve : m_solve = t_solve := by
  simp only [m_solve, t_solve, b_solve, fb_solve, vVar_F, vC1_eq, vC2_eq, vC3_eq, vC4_eq, vC5_eq, tw_checked_lines, tw_minus, tw_over, tw_times]
def fb_checked_plan : TSt :=
    (sSeq (sDrop (vC3 g_checked_number (vVarF 0) (vQ (qC (.int 2))) (vQ (qC (.int 20))))) (sSeq (sIf (bC (oV (o2 dNe (oQ (o1 dLen (qVar 1))) (oQ (o2 dSub (qVar 0) (qC (.int 1))))))) (sRaise "InvalidPaper") sPass) (sSeq (sFor (iRng (vQ (qC (.int 1))) (vVarF 0)) (aName 2) (sIf (bNot (bV (vC3 g_is_number (oV (o2 dSub1 (qVar 1) (oQ (o2 dSub (qVar 2) (qC (.int 1)))))) (vQ (qC (.int 1))) (oV (o2 dMin2 (qVar 2) (oQ (o2 dSub (qVar 0) (qVar 2)))))))) (sRaise "InvalidPaper") sPass)) (sRet (oV (o1 dList (qVar 1)))))))
def t_checked_plan : List S → FR := fnSem 3 2 [] fb_checked_plan
theorem tw_checked_plan : m_checked_plan = t_checked_plan := by
  simp only [m_checked_plan, t_checked_plan, b_checked_plan, fb_checked_plan, vVar_F, vC1_eq, vC2_eq, vC3_eq, vC4_eq, vC5_eq, tw_checked_number, tw_is_number]
def fb_timid : TSt :=
    (sSeq (sDrop (vC3 g_checked_number (vVarF 0) (vQ (qC (.int 2))) (vQ (qC (.int 20))))) (sRet (oV (o2 dMul (oQ (oLst (qAnd (qC (.int 1)) qNo))) (oQ (o2 dSub (qVar 0) (qC (.int 1))))))))
def t_timid : List S → FR := fnSem 1 1 [] fb_timid
theorem tw_timid : m_timid = t_timid := by
  simp only [m_timid, t_timid, b_timid, fb_timid, vVar_F, vC1_eq, vC2_eq, vC3_eq, vC4_eq, vC5_eq, tw_checked_number]
def fb_bold : TSt :=
    (sSeq (sDrop (vC3 g_checked_number (vVarF 0) (vQ (qC (.int 2))) (vQ (qC (.int 20))))) (sRet (vLc [1] (iRng (vQ (qC (.int 1))) (vVarF 0)) (aName 1) bYes (oV (o2 dMin2 (qVar 1) (oQ (o2 dSub (qVar 0) (qVar 1))))))))
def t_bold : List S → FR := fnSem 2 1 [] fb_bold
theorem tw_bold : m_bold = t_bold := by
  simp only [m_bold, t_bold, b_bold, fb_bold, vVar_F, vC1_eq, vC2_eq, vC3_eq, vC4_eq, vC5_eq, tw_checked_number]
def fb__inner : TSt :=
    (sSeq (sDrop (vC1 t_checked_chance (vVarF 0))) (sSeq (sIf (bOr (bC (oV (o2 dEq (oQ (o2 dSub1 (qVar 0) (qC (.int 0)))) (qC (.int 0))))) (bC (oV (o2 dEq (qVar 0) (oQ (oTup (qAnd (qC (.int 1)) (qAnd (qC (.int 1)) qNo)))))))) (sRaise "InvalidPaper") sPass) (sRet (vVarF 0))))
def t__inner : List S → FR := fnSem 1 1 [] fb__inner
theorem tw__inner : m__inner = t__inner := by
  simp only [m__inner, t__inner, b__inner, fb__inner, vVar_F, vC1_eq, vC2_eq, vC3_eq, vC4_eq, vC5_eq, tw_checked_chance]
def fb_chances : TSt :=
    (sSeq (sSet 3 (vC2 t_checked_plan (vVarF 0) (vVarF 1))) (sSeq (sSet 4 (vC1 t__inner (vVarF 2))) (sSeq (sSet 5 (oV (oLst qNo))) (sSeq (sFor (iRng (vQ (qC (.int 1))) (vVarF 0)) (aName 6) (sSeq (sSet 7 (oV (o2 dMul (oQ (oLst (qAnd (oQ (oTup (qAnd (qC (.int 0)) (qAnd (qC (.int 1)) qNo)))) qNo))) (qVar 0)))) (sSeq (sPut 7 (oV (oTup (qAnd (qC (.int 1)) (qAnd (qC (.int 1)) qNo)))) (oQ (o2 dSub (qVar 6) (qC (.int 1))))) (sSeq (sFor (iSeq (vTup (aFz (oV (oTup (qAnd (oQ (o2 dAdd (qVar 6) (oQ (o2 dSub1 (qVar 3) (oQ (o2 dSub (qVar 6) (qC (.int 1)))))))) (qAnd (qVar 4) qNo)))) (aFz (vTup (aFz (oV (o2 dSub (qVar 6) (oQ (o2 dSub1 (qVar 3) (oQ (o2 dSub (qVar 6) (qC (.int 1)))))))) (aFz (vC1 t_rest (vVarF 4)) aNo))) aNo)))) (aTup 2 (aCons (aName 8) (aCons (aName 9) aNil))) (sIf (bC (oV (o2 dEq (qVar 8) (qVar 0)))) (sPut 7 (vC2 g_plus (oV (o2 dSub1 (qVar 7) (oQ (o2 dSub (qVar 0) (qC (.int 1)))))) (vVarF 9)) (oQ (o2 dSub (qVar 0) (qC (.int 1))))) (sIf (bC (oV (o2 dGt (qVar 8) (qC (.int 0))))) (sPut 7 (vC2 g_minus (oV (o2 dSub1 (qVar 7) (oQ (o2 dSub (qVar 8) (qC (.int 1)))))) (vVarF 9)) (oQ (o2 dSub (qVar 8) (qC (.int 1))))) sPass))) (sDrop (vLm lmAppend 5 (aFz (vVarF 7) aNo))))))) (sRet (v2 dAdd (v2 dAdd (oV (oLst (qAnd (oQ (oTup (qAnd (qC (.int 0)) (qAnd (qC (.int 1)) qNo)))) qNo))) (vC1 t_solve (vVarF 5))) (oV (oLst (qAnd (oQ (oTup (qAnd (qC (.int 1)) (qAnd (qC (.int 1)) qNo)))) qNo)))))))))
def t_chances : List S → FR := fnSem 10 3 [] fb_chances
theorem tw_chances : m_chances = t_chances := by
  simp only [m_chances, t_chances, b_chances, fb_chances, vVar_F, vC1_eq, vC2_eq, vC3_eq, vC4_eq, vC5_eq, tw__inner, tw_checked_plan, tw_minus, tw_plus, tw_rest, tw_solve]
def fb_behind : TSt :=
    (sRet (vC2 g_plus (vC2 g_times (vVarF 3) (oV (o2 dSub1 (qVar 0) (oQ (o2 dAdd (qVar 1) (qVar 2)))))) (vC2 g_times (vC1 t_rest (vVarF 3)) (oV (o2 dSub1 (qVar 0) (oQ (o2 dSub (qVar 1) (qVar 2))))))))
def t_behind : List S → FR := fnSem 4 4 [] fb_behind
theorem tw_behind : m_behind = t_behind := by
  simp only [m_behind, t_behind, b_behind, fb_behind, vVar_F, vC1_eq, vC2_eq, vC3_eq, vC4_eq, vC5_eq, tw_plus, tw_rest, tw_times]
def fb_judge_plan : TSt :=
    (sSeq (sSet 4 (vC2 t_checked_plan (vVarF 0) (vVarF 1))) (sSeq (sSet 5 (vC1 t__inner (vVarF 2))) (sSeq (sIf (bOr (bC (oV (o2 dNe (oQ (o1 dLen (qVar 3))) (oQ (o2 dAdd (qVar 0) (qC (.int 1))))))) (bV (vLc [6] (iSeq (vVarF 3)) (aName 6) (bNot (bV (vC1 g_is_part (vVarF 6)))) (vVarF 6)))) (sRet (vQ (qC (.bl false)))) sPass) (sSeq (sIf (bOr (bC (oV (o2 dNe (oQ (o2 dSub1 (qVar 3) (qC (.int 0)))) (oQ (oTup (qAnd (qC (.int 0)) (qAnd (qC (.int 1)) qNo))))))) (bC (oV (o2 dNe (oQ (o2 dSub1 (qVar 3) (qVar 0))) (oQ (oTup (qAnd (qC (.int 1)) (qAnd (qC (.int 1)) qNo)))))))) (sRet (vQ (qC (.bl false)))) sPass) (sRet (v1 dNot (vLc [7] (iRng (vQ (qC (.int 1))) (vVarF 0)) (aName 7) (bC (v2 dNe (oV (o2 dSub1 (qVar 3) (qVar 7))) (vC4 t_behind (vVarF 3) (vVarF 7) (oV (o2 dSub1 (qVar 4) (oQ (o2 dSub (qVar 7) (qC (.int 1)))))) (vVarF 5)))) (vVarF 7))))))))
def t_judge_plan : List S → FR := fnSem 8 4 [] fb_judge_plan
theorem tw_judge_plan : m_judge_plan = t_judge_plan := by
  simp only [m_judge_plan, t_judge_plan, b_judge_plan, fb_judge_plan, vVar_F, vC1_eq, vC2_eq, vC3_eq, vC4_eq, vC5_eq, tw__inner, tw_behind, tw_checked_plan, tw_is_part]
def fb_better : TSt :=
    (sSeq (sFor (iRng (vQ (qC (.int 1))) (vVarF 0)) (aName 3) (sFor (iRng (vQ (qC (.int 1))) (oV (o2 dAdd (oQ (o2 dMin2 (qVar 3) (oQ (o2 dSub (qVar 0) (qVar 3))))) (qC (.int 1))))) (aName 4) (sIf (bV (vC2 g_is_less (oV (o2 dSub1 (qVar 2) (qVar 3))) (vC4 t_behind (vVarF 2) (vVarF 3) (vVarF 4) (vVarF 1)))) (sRet (oV (oTup (qAnd (qVar 3) (qAnd (qVar 4) qNo))))) sPass))) (sRet (vQ (qC .non))))
def t_better : List S → FR := fnSem 5 3 [] fb_better
theorem tw_better : m_better = t_better := by
  simp only [m_better, t_better, b_better, fb_better, vVar_F, vC1_eq, vC2_eq, vC3_eq, vC4_eq, vC5_eq, tw_behind, tw_is_less]
def fb_judge_best : TSt :=
    (sRet (vAnd (vC4 t_judge_plan (vVarF 0) (vVarF 1) (vVarF 2) (vVarF 3)) (v1 (dIsN false) (vC3 t_better (vVarF 0) (vVarF 2) (vVarF 3)))))
def t_judge_best : List S → FR := fnSem 4 4 [] fb_judge_best
theorem tw_judge_best : m_judge_best = t_judge_best := by
  simp only [m_judge_best, t_judge_best, b_judge_best, fb_judge_best, vVar_F, vC1_eq, vC2_eq, vC3_eq, vC4_eq, vC5_eq, tw_better, tw_judge_plan]
def fb_checked_plan__b_1 : TSt :=
    (sSeq (sDrop (vC3 g_checked_number (vVarF 0) (vQ (qC (.int 2))) (vQ (qC (.int 20))))) (sSeq (sIf (bC (oV (o2 dNe (oQ (o1 dLen (qVar 1))) (oQ (o2 dSub (qVar 0) (qC (.int 1))))))) (sRaise "InvalidPaper") sPass) (sSeq (sFor (iRng (vQ (qC (.int 1))) (vVarF 0)) (aName 2) (sIf (bNot (bV (vC3 g_is_number (oV (o2 dSub1 (qVar 1) (oQ (o2 dSub (qVar 2) (qC (.int 1)))))) (vQ (qC (.int 1))) (oV (o2 dMin2 (qVar 2) (oQ (o2 dSub (qVar 0) (qVar 2)))))))) (sRaise "InvalidPaper") sPass)) (sRet (oV (o1 dList (qVar 1)))))))
def t_checked_plan__b_1 : List S → FR := fnSem 3 2 [1] fb_checked_plan__b_1
theorem tw_checked_plan__b_1 : m_checked_plan__b_1 = t_checked_plan__b_1 := by
  simp only [m_checked_plan__b_1, t_checked_plan__b_1, b_checked_plan__b_1, fb_checked_plan__b_1, vVar_F, vC1_eq, vC2_eq, vC3_eq, vC4_eq, vC5_eq, tw_checked_number, tw_is_number]
def fb_chances__b_1 : TSt :=
    (sSeq (sSet 3 (vCall [1] (fills [] t_checked_plan__b_1) (aFz (vVarF 0) (aSl 1 aNo)))) (sSeq (sSet 4 (vC1 t__inner (vVarF 2))) (sSeq (sSet 5 (oV (oLst qNo))) (sSeq (sFor (iRng (vQ (qC (.int 1))) (vVarF 0)) (aName 6) (sSeq (sSet 7 (oV (o2 dMul (oQ (oLst (qAnd (oQ (oTup (qAnd (qC (.int 0)) (qAnd (qC (.int 1)) qNo)))) qNo))) (qVar 0)))) (sSeq (sPut 7 (oV (oTup (qAnd (qC (.int 1)) (qAnd (qC (.int 1)) qNo)))) (oQ (o2 dSub (qVar 6) (qC (.int 1))))) (sSeq (sFor (iSeq (vTup (aFz (oV (oTup (qAnd (oQ (o2 dAdd (qVar 6) (oQ (o2 dSub1 (qVar 3) (oQ (o2 dSub (qVar 6) (qC (.int 1)))))))) (qAnd (qVar 4) qNo)))) (aFz (vTup (aFz (oV (o2 dSub (qVar 6) (oQ (o2 dSub1 (qVar 3) (oQ (o2 dSub (qVar 6) (qC (.int 1)))))))) (aFz (vC1 t_rest (vVarF 4)) aNo))) aNo)))) (aTup 2 (aCons (aName 8) (aCons (aName 9) aNil))) (sIf (bC (oV (o2 dEq (qVar 8) (qVar 0)))) (sPut 7 (vC2 g_plus (oV (o2 dSub1 (qVar 7) (oQ (o2 dSub (qVar 0) (qC (.int 1)))))) (vVarF 9)) (oQ (o2 dSub (qVar 0) (qC (.int 1))))) (sIf (bC (oV (o2 dGt (qVar 8) (qC (.int 0))))) (sPut 7 (vC2 g_minus (oV (o2 dSub1 (qVar 7) (oQ (o2 dSub (qVar 8) (qC (.int 1)))))) (vVarF 9)) (oQ (o2 dSub (qVar 8) (qC (.int 1))))) sPass))) (sDrop (vLm lmAppend 5 (aFz (vVarF 7) aNo))))))) (sRet (v2 dAdd (v2 dAdd (oV (oLst (qAnd (oQ (oTup (qAnd (qC (.int 0)) (qAnd (qC (.int 1)) qNo)))) qNo))) (vC1 t_solve (vVarF 5))) (oV (oLst (qAnd (oQ (oTup (qAnd (qC (.int 1)) (qAnd (qC (.int 1)) qNo)))) qNo)))))))))
def t_chances__b_1 : List S → FR := fnSem 10 3 [1] fb_chances__b_1
theorem tw_chances__b_1 : m_chances__b_1 = t_chances__b_1 := by
  simp only [m_chances__b_1, t_chances__b_1, b_chances__b_1, fb_chances__b_1, vVar_F, vC1_eq, vC2_eq, vC3_eq, vC4_eq, vC5_eq, tw__inner, tw_checked_plan__b_1, tw_minus, tw_plus, tw_rest, tw_solve]
def fb_best : TSt :=
    (sSeq (sSet 2 (vC1 t_bold (vVarF 0))) (sSeq (sSet 3 (vC1 t__inner (vVarF 1))) (sSeq (sSet 4 (vCall [1] (fills [] t_chances__b_1) (aFz (vVarF 0) (aSl 2 (aFz (vVarF 3) aNo))))) (sSeq (sWhile 20000 (bC (v1 (dIsN true) (vC3 t_better (vVarF 0) (vVarF 3) (vVarF 4)))) (sSeq (sFor (iRng (vQ (qC (.int 1))) (vVarF 0)) (aName 5) (sFor (iRng (vQ (qC (.int 1))) (oV (o2 dAdd (oQ (o2 dMin2 (qVar 5) (oQ (o2 dSub (qVar 0) (qVar 5))))) (qC (.int 1))))) (aName 6) (sSeq (sSet 7 (vC4 t_behind (vVarF 4) (vVarF 5) (oV (o2 dSub1 (qVar 2) (oQ (o2 dSub (qVar 5) (qC (.int 1)))))) (vVarF 3))) (sIf (bV (vC2 g_is_less (vVarF 7) (vC4 t_behind (vVarF 4) (vVarF 5) (vVarF 6) (vVarF 3)))) (sPut 2 (vVarF 6) (oQ (o2 dSub (qVar 5) (qC (.int 1))))) sPass)))) (sSet 4 (vCall [1] (fills [] t_chances__b_1) (aFz (vVarF 0) (aSl 2 (aFz (vVarF 3) aNo))))))) (sRet (vMove 2))))))
def t_best : List S → FR := fnSem 8 2 [] fb_best
theorem tw_best : m_best = t_best := by
  simp only [m_best, t_best, b_best, fb_best, vVar_F, vC1_eq, vC2_eq, vC3_eq, vC4_eq, vC5_eq, tw__inner, tw_behind, tw_better, tw_bold, tw_chances__b_1, tw_is_less]
theorem tw__law_part : m__law_part = g_lpart := (show m__law_part = c_lpart from rfl).trans g_lpart_eq
theorem tw__law_plus : m__law_plus = g_lplus := (show m__law_plus = c_lplus from rfl).trans g_lplus_eq
theorem tw__law_less : m__law_less = g_lless := (show m__law_less = c_lless from rfl).trans g_lless_eq
def fb__law_sum : TSt :=
    (sSeq (sSet 1 (oV (oTup (qAnd (qC (.int 0)) (qAnd (qC (.int 1)) qNo))))) (sSeq (sFor (iSeq (vVarF 0)) (aName 2) (sSet 1 (vC2 g_lplus (vVarF 1) (vVarF 2)))) (sRet (vMove 1))))
def t__law_sum : List S → FR := fnSem 3 1 [] fb__law_sum
theorem tw__law_sum : m__law_sum = t__law_sum := by
  simp only [m__law_sum, t__law_sum, b__law_sum, fb__law_sum, vVar_F, vC1_eq, vC2_eq, vC3_eq, vC4_eq, vC5_eq, tw__law_plus]
theorem tw__law_minus : m__law_minus = g_lminus := (show m__law_minus = c_lminus from rfl).trans g_lminus_eq
theorem tw__law_times : m__law_times = g_ltimes := (show m__law_times = c_ltimes from rfl).trans g_ltimes_eq
def fb__law_behind : TSt :=
    (sRet (vC2 g_lplus (vC2 g_ltimes (vVarF 3) (oV (o2 dSub1 (qVar 0) (oQ (o2 dAdd (qVar 1) (qVar 2)))))) (vC2 g_ltimes (oV (oTup (qAnd (oQ (o2 dSub (oQ (o2 dSub1 (qVar 3) (qC (.int 1)))) (oQ (o2 dSub1 (qVar 3) (qC (.int 0)))))) (qAnd (oQ (o2 dSub1 (qVar 3) (qC (.int 1)))) qNo)))) (oV (o2 dSub1 (qVar 0) (oQ (o2 dSub (qVar 1) (qVar 2))))))))
def t__law_behind : List S → FR := fnSem 4 4 [] fb__law_behind
theorem tw__law_behind : m__law_behind = t__law_behind := by
  simp only [m__law_behind, t__law_behind, b__law_behind, fb__law_behind, vVar_F, vC1_eq, vC2_eq, vC3_eq, vC4_eq, vC5_eq, tw__law_plus, tw__law_times]
def fb__law_is_plan : TSt :=
    (sSeq (sIf (bOr (bC (oV (o2 dNe (oQ (o1 dLen (qVar 3))) (oQ (o2 dAdd (qVar 0) (qC (.int 1))))))) (bOr (bC (oV (o2 dNe (oQ (o2 dSub1 (qVar 3) (qC (.int 0)))) (oQ (oTup (qAnd (qC (.int 0)) (qAnd (qC (.int 1)) qNo))))))) (bC (oV (o2 dNe (oQ (o2 dSub1 (qVar 3) (qVar 0))) (oQ (oTup (qAnd (qC (.int 1)) (qAnd (qC (.int 1)) qNo))))))))) (sRet (vQ (qC (.bl false)))) sPass) (sRet (v2 dEq (v1 dLen (vLc [4] (iRng (vQ (qC (.int 1))) (vVarF 0)) (aName 4) (bC (v2 dNe (oV (o2 dSub1 (qVar 3) (qVar 4))) (vC4 t__law_behind (vVarF 3) (vVarF 4) (oV (o2 dSub1 (qVar 1) (oQ (o2 dSub (qVar 4) (qC (.int 1)))))) (vVarF 2)))) (vVarF 4))) (vQ (qC (.int 0))))))
def t__law_is_plan : List S → FR := fnSem 5 4 [] fb__law_is_plan
theorem tw__law_is_plan : m__law_is_plan = t__law_is_plan := by
  simp only [m__law_is_plan, t__law_is_plan, b__law_is_plan, fb__law_is_plan, vVar_F, vC1_eq, vC2_eq, vC3_eq, vC4_eq, vC5_eq, tw__law_behind]
def fb__law_better : TSt :=
    (sSeq (sFor (iRng (vQ (qC (.int 1))) (vVarF 0)) (aName 3) (sFor (iRng (vQ (qC (.int 1))) (oV (o2 dAdd (oQ (o2 dMin2 (qVar 3) (oQ (o2 dSub (qVar 0) (qVar 3))))) (qC (.int 1))))) (aName 4) (sIf (bV (vC2 g_lless (oV (o2 dSub1 (qVar 2) (qVar 3))) (vC4 t__law_behind (vVarF 2) (vVarF 3) (vVarF 4) (vVarF 1)))) (sRet (oV (oTup (qAnd (qVar 3) (qAnd (qVar 4) qNo))))) sPass))) (sRet (vQ (qC .non))))
def t__law_better : List S → FR := fnSem 5 3 [] fb__law_better
theorem tw__law_better : m__law_better = t__law_better := by
  simp only [m__law_better, t__law_better, b__law_better, fb__law_better, vVar_F, vC1_eq, vC2_eq, vC3_eq, vC4_eq, vC5_eq, tw__law_behind, tw__law_less]
def fb__law_plans : TSt :=
    (sSeq (sSet 1 (oV (oLst (qAnd (oQ (oLst qNo)) qNo)))) (sSeq (sFor (iRng (vQ (qC (.int 1))) (vVarF 0)) (aName 2) (sSeq (sSet 3 (oV (oLst qNo))) (sSeq (sFor (iSeq (vVarF 1)) (aName 4) (sDrop (vLm lmExtend 3 (aFz (vLc [5] (iRng (vQ (qC (.int 1))) (oV (o2 dAdd (oQ (o2 dMin2 (qVar 2) (oQ (o2 dSub (qVar 0) (qVar 2))))) (qC (.int 1))))) (aName 5) bYes (oV (o2 dAdd (qVar 4) (oQ (oLst (qAnd (qVar 5) qNo)))))) aNo)))) (sSet 1 (vVarF 3))))) (sRet (vMove 1))))
def t__law_plans : List S → FR := fnSem 6 1 [] fb__law_plans
theorem tw__law_plans : m__law_plans = t__law_plans := by
  simp only [m__law_plans, t__law_plans, b__law_plans, fb__law_plans, vVar_F, vC1_eq, vC2_eq, vC3_eq, vC4_eq, vC5_eq]
def fb_law : TSt :=
    (sSeq (sSet 1 (vCall [] (fills [] m__law_pool) (aFz (vVar 0) aNo)))
    (sSeq (sSet 2 (v2 dAdd (vQ (qC (.int 2))) (vCall [0] (fills [] m__law_draw) (aSl 1 (aFz (vQ (qC (.int 5))) aNo)))))
    (sSeq (sSet 3 (vCall [0] (fills [] m__law_pick) (aSl 1 (aFz (oV (oLst (qAnd (oQ (oTup (qAnd (qC (.int 1)) (qAnd (qC (.int 2)) qNo)))) (qAnd (oQ (oTup (qAnd (qC (.int 1)) (qAnd (qC (.int 3)) qNo)))) (qAnd (oQ (oTup (qAnd (qC (.int 2)) (qAnd (qC (.int 3)) qNo)))) (qAnd (oQ (oTup (qAnd (qC (.int 2)) (qAnd (qC (.int 5)) qNo)))) (qAnd (oQ (oTup (qAnd (qC (.int 3)) (qAnd (qC (.int 4)) qNo)))) qNo))))))) aNo))))
    (sSeq (sSet 4 (vCall [] (fills [] t_best) (aFz (vVar 2) (aFz (vVar 3) aNo))))
    (sSeq (sIf (bOr (bC (oV (o2 dNe (oQ (o1 dLen (qVar 4))) (oQ (o2 dSub (qVar 2) (qC (.int 1))))))) (bC (v2 dGt (v1 dLen (vLc [11] (iRng (vQ (qC (.int 1))) (vVar 2)) (aName 11) (bNot (bC (oV (oCh dLe dLe (qC (.int 1)) (oQ (o2 dSub1 (qVar 4) (oQ (o2 dSub (qVar 11) (qC (.int 1)))))) (oQ (o2 dMin2 (qVar 11) (oQ (o2 dSub (qVar 2) (qVar 11))))))))) (vVar 11))) (vQ (qC (.int 0))))))
    (sRet (vQ (qC (.bl false))))
    sPass)
    (sSeq (sSet 5 (vCall [] (fills [] t_chances) (aFz (vVar 2) (aFz (oV (o1 dList (qVar 4))) (aFz (vVar 3) aNo)))))
    (sSeq (sIf (bOr (bNot (bV (vCall [] (fills [] t__law_is_plan) (aFz (vVar 2) (aFz (vVar 4) (aFz (vVar 3) (aFz (vVar 5) aNo))))))) (bOr (bC (v1 (dIsN true) (vCall [] (fills [] t__law_better) (aFz (vVar 2) (aFz (vVar 3) (aFz (vVar 5) aNo)))))) (bC (v2 (dIsB true) (vCall [] (fills [] t_judge_best) (aFz (vVar 2) (aFz (oV (o1 dList (qVar 4))) (aFz (vVar 3) (aFz (oV (o1 dList (qVar 5))) aNo))))) (vQ (qC (.bl true)))))))
    (sRet (vQ (qC (.bl false))))
    sPass)
    (sSeq (sSet 6 (vIf (bC (oV (o2 dLt (qVar 2) (qC (.int 6))))) (vCall [] (fills [] t__law_plans) (aFz (vVar 2) aNo)) (vLc [8] (iRng0 (vQ (qC (.int 6)))) (aName 8) bYes (vCall [0] (fills [] m__law_plan) (aSl 1 (aFz (vVar 2) aNo))))))
    (sSeq (sFor (iSeq (oV (oCut (qVar 6) pNo (pSo (qC (.int 12)))))) (aName 7)
    (sSeq (sSet 9 (vCall [] (fills [] t_chances) (aFz (vVar 2) (aFz (oV (o1 dList (qVar 7))) (aFz (vVar 3) aNo)))))
      (sSeq (sIf (bC (v2 dGt (v1 dLen (vLc [11] (iRng0 (oV (o2 dAdd (qVar 2) (qC (.int 1))))) (aName 11) (bV (vCall [] (fills [] g_lless) (aFz (oV (o2 dSub1 (qVar 5) (qVar 11))) (aFz (oV (o2 dSub1 (qVar 9) (qVar 11))) aNo)))) (vVar 11))) (vQ (qC (.int 0)))))
      (sRet (vQ (qC (.bl false))))
      sPass)
      (sSeq (sIf (bNot (bV (vCall [] (fills [] (m__law_same 8)) (aFz (vCall [] (fills [] t_better) (aFz (vVar 2) (aFz (vVar 3) (aFz (oV (o1 dList (qVar 9))) aNo)))) (aFz (vCall [] (fills [] t__law_better) (aFz (vVar 2) (aFz (vVar 3) (aFz (vVar 9) aNo)))) aNo)))))
      (sRet (vQ (qC (.bl false))))
      sPass)
      (sIf (bNot (bV (vCall [] (fills [] (m__law_same 8)) (aFz (vCall [] (fills [] t_judge_best) (aFz (vVar 2) (aFz (oV (o1 dList (qVar 7))) (aFz (vVar 3) (aFz (oV (o1 dList (qVar 9))) aNo))))) (aFz (oV (o2 dEq (qVar 9) (qVar 5))) aNo)))))
      (sRet (vQ (qC (.bl false))))
      sPass)))))
    (sSeq (sFor (iRng0 (vQ (qC (.int 3)))) (aName 8)
    (sSeq (sSet 7 (vCall [0] (fills [] m__law_plan) (aSl 1 (aFz (vVar 2) aNo))))
      (sSeq (sSet 9 (vCall [0] (fills [] m__law_pick) (aSl 1 (aFz (vLst (aFz (vVar 5) (aFz (vLc [11] (iRng0 (oV (o2 dAdd (qVar 2) (qC (.int 1))))) (aName 11) bYes (vCall [] (fills [] g_lpart) (aFz (vVar 11) (aFz (vVar 2) aNo)))) aNo))) aNo))))
      (sSeq (sSet 10 (vAnd (vCall [] (fills [] t__law_is_plan) (aFz (vVar 2) (aFz (vVar 7) (aFz (vVar 3) (aFz (vVar 9) aNo))))) (v1 (dIsN false) (vCall [] (fills [] t__law_better) (aFz (vVar 2) (aFz (vVar 3) (aFz (vVar 9) aNo)))))))
      (sIf (bNot (bV (vCall [] (fills [] (m__law_same 8)) (aFz (vCall [] (fills [] t_judge_best) (aFz (vVar 2) (aFz (oV (o1 dList (qVar 7))) (aFz (vVar 3) (aFz (oV (o1 dList (qVar 9))) aNo))))) (aFz (vVar 10) aNo)))))
      (sRet (vQ (qC (.bl false))))
      sPass)))))
    (sSeq (sIf (bAnd (bNot (bV (vCall [] (fills [] g_lless) (aFz (oV (oTup (qAnd (qC (.int 1)) (qAnd (qC (.int 2)) qNo)))) (aFz (vVar 3) aNo))))) (bC (v2 dNe (vCall [] (fills [] t_chances) (aFz (vVar 2) (aFz (vCall [] (fills [] t_bold) (aFz (vVar 2) aNo)) (aFz (vVar 3) aNo)))) (vVar 5))))
    (sRet (vQ (qC (.bl false))))
    sPass)
    (sRet (vOrB (vCall [] (fills [] g_lless) (aFz (vVar 3) (aFz (oV (oTup (qAnd (qC (.int 1)) (qAnd (qC (.int 2)) qNo)))) aNo))) (v2 dEq (vCall [] (fills [] t_chances) (aFz (vVar 2) (aFz (vCall [] (fills [] t_timid) (aFz (vVar 2) aNo)) (aFz (vVar 3) aNo)))) (vVar 5)))))))))))))))
def t_law : List S → FR := fnSem 12 1 [] fb_law
theorem tw_law : m_law = t_law := by
  simp only [m_law, t_law, b_law, fb_law, vVar_F, vC1_eq, vC2_eq, vC3_eq, vC4_eq, vC5_eq, tw__law_better, tw__law_is_plan, tw__law_less, tw__law_part, tw__law_plans, tw_best, tw_better, tw_bold, tw_chances, tw_judge_best, tw_timid]
def l0 : TSt := (sSet 1 (vCall [] (fills [] m__law_pool) (aFz (vVar 0) aNo)))
def l1 : TSt := (sSet 2 (v2 dAdd (vQ (qC (.int 2))) (vCall [0] (fills [] m__law_draw) (aSl 1 (aFz (vQ (qC (.int 5))) aNo)))))
def l2 : TSt := (sSet 3 (vCall [0] (fills [] m__law_pick) (aSl 1 (aFz (oV (oLst (qAnd (oQ (oTup (qAnd (qC (.int 1)) (qAnd (qC (.int 2)) qNo)))) (qAnd (oQ (oTup (qAnd (qC (.int 1)) (qAnd (qC (.int 3)) qNo)))) (qAnd (oQ (oTup (qAnd (qC (.int 2)) (qAnd (qC (.int 3)) qNo)))) (qAnd (oQ (oTup (qAnd (qC (.int 2)) (qAnd (qC (.int 5)) qNo)))) (qAnd (oQ (oTup (qAnd (qC (.int 3)) (qAnd (qC (.int 4)) qNo)))) qNo))))))) aNo))))
def l3 : TSt := (sSet 4 (vCall [] (fills [] t_best) (aFz (vVar 2) (aFz (vVar 3) aNo))))
def l4 : TSt := (sIf (bOr (bC (oV (o2 dNe (oQ (o1 dLen (qVar 4))) (oQ (o2 dSub (qVar 2) (qC (.int 1))))))) (bC (v2 dGt (v1 dLen (vLc [11] (iRng (vQ (qC (.int 1))) (vVar 2)) (aName 11) (bNot (bC (oV (oCh dLe dLe (qC (.int 1)) (oQ (o2 dSub1 (qVar 4) (oQ (o2 dSub (qVar 11) (qC (.int 1)))))) (oQ (o2 dMin2 (qVar 11) (oQ (o2 dSub (qVar 2) (qVar 11))))))))) (vVar 11))) (vQ (qC (.int 0)))))) (sRet (vQ (qC (.bl false)))) sPass)
def l5 : TSt := (sSet 5 (vCall [] (fills [] t_chances) (aFz (vVar 2) (aFz (oV (o1 dList (qVar 4))) (aFz (vVar 3) aNo)))))
def l6 : TSt := (sIf (bOr (bNot (bV (vCall [] (fills [] t__law_is_plan) (aFz (vVar 2) (aFz (vVar 4) (aFz (vVar 3) (aFz (vVar 5) aNo))))))) (bOr (bC (v1 (dIsN true) (vCall [] (fills [] t__law_better) (aFz (vVar 2) (aFz (vVar 3) (aFz (vVar 5) aNo)))))) (bC (v2 (dIsB true) (vCall [] (fills [] t_judge_best) (aFz (vVar 2) (aFz (oV (o1 dList (qVar 4))) (aFz (vVar 3) (aFz (oV (o1 dList (qVar 5))) aNo))))) (vQ (qC (.bl true))))))) (sRet (vQ (qC (.bl false)))) sPass)
def l7 : TSt := (sSet 6 (vIf (bC (oV (o2 dLt (qVar 2) (qC (.int 6))))) (vCall [] (fills [] t__law_plans) (aFz (vVar 2) aNo)) (vLc [8] (iRng0 (vQ (qC (.int 6)))) (aName 8) bYes (vCall [0] (fills [] m__law_plan) (aSl 1 (aFz (vVar 2) aNo))))))
def l8b : TSt := (sSeq (sSet 9 (vCall [] (fills [] t_chances) (aFz (vVar 2) (aFz (oV (o1 dList (qVar 7))) (aFz (vVar 3) aNo))))) (sSeq (sIf (bC (v2 dGt (v1 dLen (vLc [11] (iRng0 (oV (o2 dAdd (qVar 2) (qC (.int 1))))) (aName 11) (bV (vCall [] (fills [] g_lless) (aFz (oV (o2 dSub1 (qVar 5) (qVar 11))) (aFz (oV (o2 dSub1 (qVar 9) (qVar 11))) aNo)))) (vVar 11))) (vQ (qC (.int 0))))) (sRet (vQ (qC (.bl false)))) sPass) (sSeq (sIf (bNot (bV (vCall [] (fills [] (m__law_same 8)) (aFz (vCall [] (fills [] t_better) (aFz (vVar 2) (aFz (vVar 3) (aFz (oV (o1 dList (qVar 9))) aNo)))) (aFz (vCall [] (fills [] t__law_better) (aFz (vVar 2) (aFz (vVar 3) (aFz (vVar 9) aNo)))) aNo))))) (sRet (vQ (qC (.bl false)))) sPass) (sIf (bNot (bV (vCall [] (fills [] (m__law_same 8)) (aFz (vCall [] (fills [] t_judge_best) (aFz (vVar 2) (aFz (oV (o1 dList (qVar 7))) (aFz (vVar 3) (aFz (oV (o1 dList (qVar 9))) aNo))))) (aFz (oV (o2 dEq (qVar 9) (qVar 5))) aNo))))) (sRet (vQ (qC (.bl false)))) sPass))))
def l8 : TSt := (sFor (iSeq (oV (oCut (qVar 6) pNo (pSo (qC (.int 12)))))) (aName 7) l8b)
def l9b : TSt := (sSeq (sSet 7 (vCall [0] (fills [] m__law_plan) (aSl 1 (aFz (vVar 2) aNo)))) (sSeq (sSet 9 (vCall [0] (fills [] m__law_pick) (aSl 1 (aFz (vLst (aFz (vVar 5) (aFz (vLc [11] (iRng0 (oV (o2 dAdd (qVar 2) (qC (.int 1))))) (aName 11) bYes (vCall [] (fills [] g_lpart) (aFz (vVar 11) (aFz (vVar 2) aNo)))) aNo))) aNo)))) (sSeq (sSet 10 (vAnd (vCall [] (fills [] t__law_is_plan) (aFz (vVar 2) (aFz (vVar 7) (aFz (vVar 3) (aFz (vVar 9) aNo))))) (v1 (dIsN false) (vCall [] (fills [] t__law_better) (aFz (vVar 2) (aFz (vVar 3) (aFz (vVar 9) aNo))))))) (sIf (bNot (bV (vCall [] (fills [] (m__law_same 8)) (aFz (vCall [] (fills [] t_judge_best) (aFz (vVar 2) (aFz (oV (o1 dList (qVar 7))) (aFz (vVar 3) (aFz (oV (o1 dList (qVar 9))) aNo))))) (aFz (vVar 10) aNo))))) (sRet (vQ (qC (.bl false)))) sPass))))
def l9 : TSt := (sFor (iRng0 (vQ (qC (.int 3)))) (aName 8) l9b)
def l10 : TSt := (sIf (bAnd (bNot (bV (vCall [] (fills [] g_lless) (aFz (oV (oTup (qAnd (qC (.int 1)) (qAnd (qC (.int 2)) qNo)))) (aFz (vVar 3) aNo))))) (bC (v2 dNe (vCall [] (fills [] t_chances) (aFz (vVar 2) (aFz (vCall [] (fills [] t_bold) (aFz (vVar 2) aNo)) (aFz (vVar 3) aNo)))) (vVar 5)))) (sRet (vQ (qC (.bl false)))) sPass)
def l11 : TSt := (sRet (vOrB (vCall [] (fills [] g_lless) (aFz (vVar 3) (aFz (oV (oTup (qAnd (qC (.int 1)) (qAnd (qC (.int 2)) qNo)))) aNo))) (v2 dEq (vCall [] (fills [] t_chances) (aFz (vVar 2) (aFz (vCall [] (fills [] t_timid) (aFz (vVar 2) aNo)) (aFz (vVar 3) aNo)))) (vVar 5))))
theorem law_at : m_law = fnSem 12 1 [] (sSeq l0 (sSeq l1 (sSeq l2 (sSeq l3 (sSeq l4 (sSeq l5 (sSeq l6 (sSeq l7 (sSeq l8 (sSeq l9 (sSeq l10 l11))))))))))) := tw_law
end
end K61
namespace K61
open PySem PySem.Spec VS
abbrev fr (p : Int × Int) : D := .tup [.int p.1, .int p.2]
abbrev frs (l : List (Int × Int)) : D := .lst (l.map fr)
abbrev nums (l : List Int) : D := .lst (l.map .int)
abbrev I (a : Int) : Option S := some (.fz (.int a))
abbrev Z (d : D) : Option S := some (.fz d)
abbrev segA : TSt := sSeq l3 (sSeq l4 (sSeq l5 l6))
abbrev segB : TSt := sSeq l7 l8
def segC : TSt := (sSeq (sSet 10 (vAnd (vCall [] (fills [] t__law_is_plan) (aFz (vVar 2) (aFz (vVar 7) (aFz (vVar 3) (aFz (vVar 9) aNo))))) (v1 (dIsN false) (vCall [] (fills [] t__law_better) (aFz (vVar 2) (aFz (vVar 3) (aFz (vVar 9) aNo))))))) (sIf (bNot (bV (vCall [] (fills [] (m__law_same 8)) (aFz (vCall [] (fills [] t_judge_best) (aFz (vVar 2) (aFz (oV (o1 dList (qVar 7))) (aFz (vVar 3) (aFz (oV (o1 dList (qVar 9))) aNo))))) (aFz (vVar 10) aNo))))) (sRet (vQ (qC (.bl false)))) sPass))
abbrev segD : TSt := sSeq l10 l11
def s7 : TSt := (sSet 7 (vCall [0] (fills [] m__law_plan) (aSl 1 (aFz (vVar 2) aNo))))
def s9 : TSt := (sSet 9 (vCall [0] (fills [] m__law_pick) (aSl 1 (aFz (vLst (aFz (vVar 5) (aFz (vLc [11] (iRng0 (oV (o2 dAdd (qVar 2) (qC (.int 1))))) (aName 11) bYes (vCall [] (fills [] g_lpart) (aFz (vVar 11) (aFz (vVar 2) aNo)))) aNo))) aNo))))
theorem l9b_eq : l9b = sSeq s7 (sSeq s9 segC) := rfl
def t9 : TV := (vLst (aFz (vVar 5) (aFz (vLc [11] (iRng0 (oV (o2 dAdd (qVar 2) (qC (.int 1))))) (aName 11) bYes (vCall [] (fills [] g_lpart) (aFz (vVar 11) (aFz (vVar 2) aNo)))) aNo)))
theorem A2_12 (x p : S) : sSeq segA segB ([some x, some p, I 2, Z (fr (1, 2)), none, none, none, none, none, none, none, none]) = .nx ([some x, some p, I 2, Z (fr (1, 2)), Z (nums [1]), Z (frs [(0, 1), (1, 2), (1, 1)]), Z (.lst ([[1]].map nums)), Z (nums [1]), none, Z (frs [(0, 1), (1, 2), (1, 1)]), none, none]) := by kernel_rfl
theorem L2_12 (x p : S) (o4 o6 o7 o8 o9 o10 : Option S) : t9 ([some x, some p, I 2, Z (fr (1, 2)), o4, Z (frs [(0, 1), (1, 2), (1, 1)]), o6, o7, o8, o9, o10, none]) = .ok (.lst [frs [(0, 1), (1, 2), (1, 1)], frs [(0, 1), (1, 2), (1, 1)]], [some x, some p, I 2, Z (fr (1, 2)), o4, Z (frs [(0, 1), (1, 2), (1, 1)]), o6, o7, o8, o9, o10, none]) := by kernel_rfl
theorem C2_12_0_0 (x p : S) (o4 o5 o6 o8 o10 : Option S) : segC ([some x, some p, I 2, Z (fr (1, 2)), o4, o5, o6, some (.lst ([1].map .int)), o8, Z (frs [(0, 1), (1, 2), (1, 1)]), o10, none]) = .nx ([some x, some p, I 2, Z (fr (1, 2)), o4, o5, o6, Z (nums [1]), o8, Z (frs [(0, 1), (1, 2), (1, 1)]), Z (.bl true), none]) := by kernel_rfl
theorem C2_12_0_1 (x p : S) (o4 o5 o6 o8 o10 : Option S) : segC ([some x, some p, I 2, Z (fr (1, 2)), o4, o5, o6, some (.lst ([1].map .int)), o8, Z (frs [(0, 1), (1, 2), (1, 1)]), o10, none]) = .nx ([some x, some p, I 2, Z (fr (1, 2)), o4, o5, o6, Z (nums [1]), o8, Z (frs [(0, 1), (1, 2), (1, 1)]), Z (.bl true), none]) := by kernel_rfl
theorem D2_12 (x p : S) (o4 o6 o7 o8 o9 o10 : Option S) : segD ([some x, some p, I 2, Z (fr (1, 2)), o4, Z (frs [(0, 1), (1, 2), (1, 1)]), o6, o7, o8, o9, o10, none]) = .rt (.fz (.bl true)) ([some x, some p, I 2, Z (fr (1, 2)), o4, Z (frs [(0, 1), (1, 2), (1, 1)]), o6, o7, o8, o9, o10, none]) := by kernel_rfl
theorem A2_13 (x p : S) : sSeq segA segB ([some x, some p, I 2, Z (fr (1, 3)), none, none, none, none, none, none, none, none]) = .nx ([some x, some p, I 2, Z (fr (1, 3)), Z (nums [1]), Z (frs [(0, 1), (1, 3), (1, 1)]), Z (.lst ([[1]].map nums)), Z (nums [1]), none, Z (frs [(0, 1), (1, 3), (1, 1)]), none, none]) := by kernel_rfl
theorem L2_13 (x p : S) (o4 o6 o7 o8 o9 o10 : Option S) : t9 ([some x, some p, I 2, Z (fr (1, 3)), o4, Z (frs [(0, 1), (1, 3), (1, 1)]), o6, o7, o8, o9, o10, none]) = .ok (.lst [frs [(0, 1), (1, 3), (1, 1)], frs [(0, 1), (1, 2), (1, 1)]], [some x, some p, I 2, Z (fr (1, 3)), o4, Z (frs [(0, 1), (1, 3), (1, 1)]), o6, o7, o8, o9, o10, none]) := by kernel_rfl
theorem C2_13_0_0 (x p : S) (o4 o5 o6 o8 o10 : Option S) : segC ([some x, some p, I 2, Z (fr (1, 3)), o4, o5, o6, some (.lst ([1].map .int)), o8, Z (frs [(0, 1), (1, 3), (1, 1)]), o10, none]) = .nx ([some x, some p, I 2, Z (fr (1, 3)), o4, o5, o6, Z (nums [1]), o8, Z (frs [(0, 1), (1, 3), (1, 1)]), Z (.bl true), none]) := by kernel_rfl
theorem C2_13_0_1 (x p : S) (o4 o5 o6 o8 o10 : Option S) : segC ([some x, some p, I 2, Z (fr (1, 3)), o4, o5, o6, some (.lst ([1].map .int)), o8, Z (frs [(0, 1), (1, 2), (1, 1)]), o10, none]) = .nx ([some x, some p, I 2, Z (fr (1, 3)), o4, o5, o6, Z (nums [1]), o8, Z (frs [(0, 1), (1, 2), (1, 1)]), Z (.bl false), none]) := by kernel_rfl
theorem D2_13 (x p : S) (o4 o6 o7 o8 o9 o10 : Option S) : segD ([some x, some p, I 2, Z (fr (1, 3)), o4, Z (frs [(0, 1), (1, 3), (1, 1)]), o6, o7, o8, o9, o10, none]) = .rt (.fz (.bl true)) ([some x, some p, I 2, Z (fr (1, 3)), o4, Z (frs [(0, 1), (1, 3), (1, 1)]), o6, o7, o8, o9, o10, none]) := by kernel_rfl
theorem A2_23 (x p : S) : sSeq segA segB ([some x, some p, I 2, Z (fr (2, 3)), none, none, none, none, none, none, none, none]) = .nx ([some x, some p, I 2, Z (fr (2, 3)), Z (nums [1]), Z (frs [(0, 1), (2, 3), (1, 1)]), Z (.lst ([[1]].map nums)), Z (nums [1]), none, Z (frs [(0, 1), (2, 3), (1, 1)]), none, none]) := by kernel_rfl
theorem L2_23 (x p : S) (o4 o6 o7 o8 o9 o10 : Option S) : t9 ([some x, some p, I 2, Z (fr (2, 3)), o4, Z (frs [(0, 1), (2, 3), (1, 1)]), o6, o7, o8, o9, o10, none]) = .ok (.lst [frs [(0, 1), (2, 3), (1, 1)], frs [(0, 1), (1, 2), (1, 1)]], [some x, some p, I 2, Z (fr (2, 3)), o4, Z (frs [(0, 1), (2, 3), (1, 1)]), o6, o7, o8, o9, o10, none]) := by kernel_rfl
theorem C2_23_0_0 (x p : S) (o4 o5 o6 o8 o10 : Option S) : segC ([some x, some p, I 2, Z (fr (2, 3)), o4, o5, o6, some (.lst ([1].map .int)), o8, Z (frs [(0, 1), (2, 3), (1, 1)]), o10, none]) = .nx ([some x, some p, I 2, Z (fr (2, 3)), o4, o5, o6, Z (nums [1]), o8, Z (frs [(0, 1), (2, 3), (1, 1)]), Z (.bl true), none]) := by kernel_rfl
theorem C2_23_0_1 (x p : S) (o4 o5 o6 o8 o10 : Option S) : segC ([some x, some p, I 2, Z (fr (2, 3)), o4, o5, o6, some (.lst ([1].map .int)), o8, Z (frs [(0, 1), (1, 2), (1, 1)]), o10, none]) = .nx ([some x, some p, I 2, Z (fr (2, 3)), o4, o5, o6, Z (nums [1]), o8, Z (frs [(0, 1), (1, 2), (1, 1)]), Z (.bl false), none]) := by kernel_rfl
theorem D2_23 (x p : S) (o4 o6 o7 o8 o9 o10 : Option S) : segD ([some x, some p, I 2, Z (fr (2, 3)), o4, Z (frs [(0, 1), (2, 3), (1, 1)]), o6, o7, o8, o9, o10, none]) = .rt (.fz (.bl true)) ([some x, some p, I 2, Z (fr (2, 3)), o4, Z (frs [(0, 1), (2, 3), (1, 1)]), o6, o7, o8, o9, o10, none]) := by kernel_rfl
theorem A2_25 (x p : S) : sSeq segA segB ([some x, some p, I 2, Z (fr (2, 5)), none, none, none, none, none, none, none, none]) = .nx ([some x, some p, I 2, Z (fr (2, 5)), Z (nums [1]), Z (frs [(0, 1), (2, 5), (1, 1)]), Z (.lst ([[1]].map nums)), Z (nums [1]), none, Z (frs [(0, 1), (2, 5), (1, 1)]), none, none]) := by kernel_rfl
theorem L2_25 (x p : S) (o4 o6 o7 o8 o9 o10 : Option S) : t9 ([some x, some p, I 2, Z (fr (2, 5)), o4, Z (frs [(0, 1), (2, 5), (1, 1)]), o6, o7, o8, o9, o10, none]) = .ok (.lst [frs [(0, 1), (2, 5), (1, 1)], frs [(0, 1), (1, 2), (1, 1)]], [some x, some p, I 2, Z (fr (2, 5)), o4, Z (frs [(0, 1), (2, 5), (1, 1)]), o6, o7, o8, o9, o10, none]) := by kernel_rfl
theorem C2_25_0_0 (x p : S) (o4 o5 o6 o8 o10 : Option S) : segC ([some x, some p, I 2, Z (fr (2, 5)), o4, o5, o6, some (.lst ([1].map .int)), o8, Z (frs [(0, 1), (2, 5), (1, 1)]), o10, none]) = .nx ([some x, some p, I 2, Z (fr (2, 5)), o4, o5, o6, Z (nums [1]), o8, Z (frs [(0, 1), (2, 5), (1, 1)]), Z (.bl true), none]) := by kernel_rfl
theorem C2_25_0_1 (x p : S) (o4 o5 o6 o8 o10 : Option S) : segC ([some x, some p, I 2, Z (fr (2, 5)), o4, o5, o6, some (.lst ([1].map .int)), o8, Z (frs [(0, 1), (1, 2), (1, 1)]), o10, none]) = .nx ([some x, some p, I 2, Z (fr (2, 5)), o4, o5, o6, Z (nums [1]), o8, Z (frs [(0, 1), (1, 2), (1, 1)]), Z (.bl false), none]) := by kernel_rfl
theorem D2_25 (x p : S) (o4 o6 o7 o8 o9 o10 : Option S) : segD ([some x, some p, I 2, Z (fr (2, 5)), o4, Z (frs [(0, 1), (2, 5), (1, 1)]), o6, o7, o8, o9, o10, none]) = .rt (.fz (.bl true)) ([some x, some p, I 2, Z (fr (2, 5)), o4, Z (frs [(0, 1), (2, 5), (1, 1)]), o6, o7, o8, o9, o10, none]) := by kernel_rfl
theorem A2_34 (x p : S) : sSeq segA segB ([some x, some p, I 2, Z (fr (3, 4)), none, none, none, none, none, none, none, none]) = .nx ([some x, some p, I 2, Z (fr (3, 4)), Z (nums [1]), Z (frs [(0, 1), (3, 4), (1, 1)]), Z (.lst ([[1]].map nums)), Z (nums [1]), none, Z (frs [(0, 1), (3, 4), (1, 1)]), none, none]) := by kernel_rfl
theorem L2_34 (x p : S) (o4 o6 o7 o8 o9 o10 : Option S) : t9 ([some x, some p, I 2, Z (fr (3, 4)), o4, Z (frs [(0, 1), (3, 4), (1, 1)]), o6, o7, o8, o9, o10, none]) = .ok (.lst [frs [(0, 1), (3, 4), (1, 1)], frs [(0, 1), (1, 2), (1, 1)]], [some x, some p, I 2, Z (fr (3, 4)), o4, Z (frs [(0, 1), (3, 4), (1, 1)]), o6, o7, o8, o9, o10, none]) := by kernel_rfl
theorem C2_34_0_0 (x p : S) (o4 o5 o6 o8 o10 : Option S) : segC ([some x, some p, I 2, Z (fr (3, 4)), o4, o5, o6, some (.lst ([1].map .int)), o8, Z (frs [(0, 1), (3, 4), (1, 1)]), o10, none]) = .nx ([some x, some p, I 2, Z (fr (3, 4)), o4, o5, o6, Z (nums [1]), o8, Z (frs [(0, 1), (3, 4), (1, 1)]), Z (.bl true), none]) := by kernel_rfl
theorem C2_34_0_1 (x p : S) (o4 o5 o6 o8 o10 : Option S) : segC ([some x, some p, I 2, Z (fr (3, 4)), o4, o5, o6, some (.lst ([1].map .int)), o8, Z (frs [(0, 1), (1, 2), (1, 1)]), o10, none]) = .nx ([some x, some p, I 2, Z (fr (3, 4)), o4, o5, o6, Z (nums [1]), o8, Z (frs [(0, 1), (1, 2), (1, 1)]), Z (.bl false), none]) := by kernel_rfl
theorem D2_34 (x p : S) (o4 o6 o7 o8 o9 o10 : Option S) : segD ([some x, some p, I 2, Z (fr (3, 4)), o4, Z (frs [(0, 1), (3, 4), (1, 1)]), o6, o7, o8, o9, o10, none]) = .rt (.fz (.bl true)) ([some x, some p, I 2, Z (fr (3, 4)), o4, Z (frs [(0, 1), (3, 4), (1, 1)]), o6, o7, o8, o9, o10, none]) := by kernel_rfl
theorem A3_12 (x p : S) : sSeq segA segB ([some x, some p, I 3, Z (fr (1, 2)), none, none, none, none, none, none, none, none]) = .nx ([some x, some p, I 3, Z (fr (1, 2)), Z (nums [1, 1]), Z (frs [(0, 1), (1, 3), (2, 3), (1, 1)]), Z (.lst ([[1, 1]].map nums)), Z (nums [1, 1]), none, Z (frs [(0, 1), (1, 3), (2, 3), (1, 1)]), none, none]) := by kernel_rfl
theorem L3_12 (x p : S) (o4 o6 o7 o8 o9 o10 : Option S) : t9 ([some x, some p, I 3, Z (fr (1, 2)), o4, Z (frs [(0, 1), (1, 3), (2, 3), (1, 1)]), o6, o7, o8, o9, o10, none]) = .ok (.lst [frs [(0, 1), (1, 3), (2, 3), (1, 1)], frs [(0, 1), (1, 3), (2, 3), (1, 1)]], [some x, some p, I 3, Z (fr (1, 2)), o4, Z (frs [(0, 1), (1, 3), (2, 3), (1, 1)]), o6, o7, o8, o9, o10, none]) := by kernel_rfl
theorem C3_12_0_0 (x p : S) (o4 o5 o6 o8 o10 : Option S) : segC ([some x, some p, I 3, Z (fr (1, 2)), o4, o5, o6, some (.lst ([1, 1].map .int)), o8, Z (frs [(0, 1), (1, 3), (2, 3), (1, 1)]), o10, none]) = .nx ([some x, some p, I 3, Z (fr (1, 2)), o4, o5, o6, Z (nums [1, 1]), o8, Z (frs [(0, 1), (1, 3), (2, 3), (1, 1)]), Z (.bl true), none]) := by kernel_rfl
theorem C3_12_0_1 (x p : S) (o4 o5 o6 o8 o10 : Option S) : segC ([some x, some p, I 3, Z (fr (1, 2)), o4, o5, o6, some (.lst ([1, 1].map .int)), o8, Z (frs [(0, 1), (1, 3), (2, 3), (1, 1)]), o10, none]) = .nx ([some x, some p, I 3, Z (fr (1, 2)), o4, o5, o6, Z (nums [1, 1]), o8, Z (frs [(0, 1), (1, 3), (2, 3), (1, 1)]), Z (.bl true), none]) := by kernel_rfl
theorem D3_12 (x p : S) (o4 o6 o7 o8 o9 o10 : Option S) : segD ([some x, some p, I 3, Z (fr (1, 2)), o4, Z (frs [(0, 1), (1, 3), (2, 3), (1, 1)]), o6, o7, o8, o9, o10, none]) = .rt (.fz (.bl true)) ([some x, some p, I 3, Z (fr (1, 2)), o4, Z (frs [(0, 1), (1, 3), (2, 3), (1, 1)]), o6, o7, o8, o9, o10, none]) := by kernel_rfl
theorem A3_13 (x p : S) : sSeq segA segB ([some x, some p, I 3, Z (fr (1, 3)), none, none, none, none, none, none, none, none]) = .nx ([some x, some p, I 3, Z (fr (1, 3)), Z (nums [1, 1]), Z (frs [(0, 1), (1, 7), (3, 7), (1, 1)]), Z (.lst ([[1, 1]].map nums)), Z (nums [1, 1]), none, Z (frs [(0, 1), (1, 7), (3, 7), (1, 1)]), none, none]) := by kernel_rfl
theorem L3_13 (x p : S) (o4 o6 o7 o8 o9 o10 : Option S) : t9 ([some x, some p, I 3, Z (fr (1, 3)), o4, Z (frs [(0, 1), (1, 7), (3, 7), (1, 1)]), o6, o7, o8, o9, o10, none]) = .ok (.lst [frs [(0, 1), (1, 7), (3, 7), (1, 1)], frs [(0, 1), (1, 3), (2, 3), (1, 1)]], [some x, some p, I 3, Z (fr (1, 3)), o4, Z (frs [(0, 1), (1, 7), (3, 7), (1, 1)]), o6, o7, o8, o9, o10, none]) := by kernel_rfl
theorem C3_13_0_0 (x p : S) (o4 o5 o6 o8 o10 : Option S) : segC ([some x, some p, I 3, Z (fr (1, 3)), o4, o5, o6, some (.lst ([1, 1].map .int)), o8, Z (frs [(0, 1), (1, 7), (3, 7), (1, 1)]), o10, none]) = .nx ([some x, some p, I 3, Z (fr (1, 3)), o4, o5, o6, Z (nums [1, 1]), o8, Z (frs [(0, 1), (1, 7), (3, 7), (1, 1)]), Z (.bl true), none]) := by kernel_rfl
theorem C3_13_0_1 (x p : S) (o4 o5 o6 o8 o10 : Option S) : segC ([some x, some p, I 3, Z (fr (1, 3)), o4, o5, o6, some (.lst ([1, 1].map .int)), o8, Z (frs [(0, 1), (1, 3), (2, 3), (1, 1)]), o10, none]) = .nx ([some x, some p, I 3, Z (fr (1, 3)), o4, o5, o6, Z (nums [1, 1]), o8, Z (frs [(0, 1), (1, 3), (2, 3), (1, 1)]), Z (.bl false), none]) := by kernel_rfl
theorem D3_13 (x p : S) (o4 o6 o7 o8 o9 o10 : Option S) : segD ([some x, some p, I 3, Z (fr (1, 3)), o4, Z (frs [(0, 1), (1, 7), (3, 7), (1, 1)]), o6, o7, o8, o9, o10, none]) = .rt (.fz (.bl true)) ([some x, some p, I 3, Z (fr (1, 3)), o4, Z (frs [(0, 1), (1, 7), (3, 7), (1, 1)]), o6, o7, o8, o9, o10, none]) := by kernel_rfl
theorem A3_23 (x p : S) : sSeq segA segB ([some x, some p, I 3, Z (fr (2, 3)), none, none, none, none, none, none, none, none]) = .nx ([some x, some p, I 3, Z (fr (2, 3)), Z (nums [1, 1]), Z (frs [(0, 1), (4, 7), (6, 7), (1, 1)]), Z (.lst ([[1, 1]].map nums)), Z (nums [1, 1]), none, Z (frs [(0, 1), (4, 7), (6, 7), (1, 1)]), none, none]) := by kernel_rfl
theorem L3_23 (x p : S) (o4 o6 o7 o8 o9 o10 : Option S) : t9 ([some x, some p, I 3, Z (fr (2, 3)), o4, Z (frs [(0, 1), (4, 7), (6, 7), (1, 1)]), o6, o7, o8, o9, o10, none]) = .ok (.lst [frs [(0, 1), (4, 7), (6, 7), (1, 1)], frs [(0, 1), (1, 3), (2, 3), (1, 1)]], [some x, some p, I 3, Z (fr (2, 3)), o4, Z (frs [(0, 1), (4, 7), (6, 7), (1, 1)]), o6, o7, o8, o9, o10, none]) := by kernel_rfl
theorem C3_23_0_0 (x p : S) (o4 o5 o6 o8 o10 : Option S) : segC ([some x, some p, I 3, Z (fr (2, 3)), o4, o5, o6, some (.lst ([1, 1].map .int)), o8, Z (frs [(0, 1), (4, 7), (6, 7), (1, 1)]), o10, none]) = .nx ([some x, some p, I 3, Z (fr (2, 3)), o4, o5, o6, Z (nums [1, 1]), o8, Z (frs [(0, 1), (4, 7), (6, 7), (1, 1)]), Z (.bl true), none]) := by kernel_rfl
theorem C3_23_0_1 (x p : S) (o4 o5 o6 o8 o10 : Option S) : segC ([some x, some p, I 3, Z (fr (2, 3)), o4, o5, o6, some (.lst ([1, 1].map .int)), o8, Z (frs [(0, 1), (1, 3), (2, 3), (1, 1)]), o10, none]) = .nx ([some x, some p, I 3, Z (fr (2, 3)), o4, o5, o6, Z (nums [1, 1]), o8, Z (frs [(0, 1), (1, 3), (2, 3), (1, 1)]), Z (.bl false), none]) := by kernel_rfl
theorem D3_23 (x p : S) (o4 o6 o7 o8 o9 o10 : Option S) : segD ([some x, some p, I 3, Z (fr (2, 3)), o4, Z (frs [(0, 1), (4, 7), (6, 7), (1, 1)]), o6, o7, o8, o9, o10, none]) = .rt (.fz (.bl true)) ([some x, some p, I 3, Z (fr (2, 3)), o4, Z (frs [(0, 1), (4, 7), (6, 7), (1, 1)]), o6, o7, o8, o9, o10, none]) := by kernel_rfl
theorem A3_25 (x p : S) : sSeq segA segB ([some x, some p, I 3, Z (fr (2, 5)), none, none, none, none, none, none, none, none]) = .nx ([some x, some p, I 3, Z (fr (2, 5)), Z (nums [1, 1]), Z (frs [(0, 1), (4, 19), (10, 19), (1, 1)]), Z (.lst ([[1, 1]].map nums)), Z (nums [1, 1]), none, Z (frs [(0, 1), (4, 19), (10, 19), (1, 1)]), none, none]) := by kernel_rfl
theorem L3_25 (x p : S) (o4 o6 o7 o8 o9 o10 : Option S) : t9 ([some x, some p, I 3, Z (fr (2, 5)), o4, Z (frs [(0, 1), (4, 19), (10, 19), (1, 1)]), o6, o7, o8, o9, o10, none]) = .ok (.lst [frs [(0, 1), (4, 19), (10, 19), (1, 1)], frs [(0, 1), (1, 3), (2, 3), (1, 1)]], [some x, some p, I 3, Z (fr (2, 5)), o4, Z (frs [(0, 1), (4, 19), (10, 19), (1, 1)]), o6, o7, o8, o9, o10, none]) := by kernel_rfl
theorem C3_25_0_0 (x p : S) (o4 o5 o6 o8 o10 : Option S) : segC ([some x, some p, I 3, Z (fr (2, 5)), o4, o5, o6, some (.lst ([1, 1].map .int)), o8, Z (frs [(0, 1), (4, 19), (10, 19), (1, 1)]), o10, none]) = .nx ([some x, some p, I 3, Z (fr (2, 5)), o4, o5, o6, Z (nums [1, 1]), o8, Z (frs [(0, 1), (4, 19), (10, 19), (1, 1)]), Z (.bl true), none]) := by kernel_rfl
theorem C3_25_0_1 (x p : S) (o4 o5 o6 o8 o10 : Option S) : segC ([some x, some p, I 3, Z (fr (2, 5)), o4, o5, o6, some (.lst ([1, 1].map .int)), o8, Z (frs [(0, 1), (1, 3), (2, 3), (1, 1)]), o10, none]) = .nx ([some x, some p, I 3, Z (fr (2, 5)), o4, o5, o6, Z (nums [1, 1]), o8, Z (frs [(0, 1), (1, 3), (2, 3), (1, 1)]), Z (.bl false), none]) := by kernel_rfl
theorem D3_25 (x p : S) (o4 o6 o7 o8 o9 o10 : Option S) : segD ([some x, some p, I 3, Z (fr (2, 5)), o4, Z (frs [(0, 1), (4, 19), (10, 19), (1, 1)]), o6, o7, o8, o9, o10, none]) = .rt (.fz (.bl true)) ([some x, some p, I 3, Z (fr (2, 5)), o4, Z (frs [(0, 1), (4, 19), (10, 19), (1, 1)]), o6, o7, o8, o9, o10, none]) := by kernel_rfl
theorem A3_34 (x p : S) : sSeq segA segB ([some x, some p, I 3, Z (fr (3, 4)), none, none, none, none, none, none, none, none]) = .nx ([some x, some p, I 3, Z (fr (3, 4)), Z (nums [1, 1]), Z (frs [(0, 1), (9, 13), (12, 13), (1, 1)]), Z (.lst ([[1, 1]].map nums)), Z (nums [1, 1]), none, Z (frs [(0, 1), (9, 13), (12, 13), (1, 1)]), none, none]) := by kernel_rfl
theorem L3_34 (x p : S) (o4 o6 o7 o8 o9 o10 : Option S) : t9 ([some x, some p, I 3, Z (fr (3, 4)), o4, Z (frs [(0, 1), (9, 13), (12, 13), (1, 1)]), o6, o7, o8, o9, o10, none]) = .ok (.lst [frs [(0, 1), (9, 13), (12, 13), (1, 1)], frs [(0, 1), (1, 3), (2, 3), (1, 1)]], [some x, some p, I 3, Z (fr (3, 4)), o4, Z (frs [(0, 1), (9, 13), (12, 13), (1, 1)]), o6, o7, o8, o9, o10, none]) := by kernel_rfl
theorem C3_34_0_0 (x p : S) (o4 o5 o6 o8 o10 : Option S) : segC ([some x, some p, I 3, Z (fr (3, 4)), o4, o5, o6, some (.lst ([1, 1].map .int)), o8, Z (frs [(0, 1), (9, 13), (12, 13), (1, 1)]), o10, none]) = .nx ([some x, some p, I 3, Z (fr (3, 4)), o4, o5, o6, Z (nums [1, 1]), o8, Z (frs [(0, 1), (9, 13), (12, 13), (1, 1)]), Z (.bl true), none]) := by kernel_rfl
theorem C3_34_0_1 (x p : S) (o4 o5 o6 o8 o10 : Option S) : segC ([some x, some p, I 3, Z (fr (3, 4)), o4, o5, o6, some (.lst ([1, 1].map .int)), o8, Z (frs [(0, 1), (1, 3), (2, 3), (1, 1)]), o10, none]) = .nx ([some x, some p, I 3, Z (fr (3, 4)), o4, o5, o6, Z (nums [1, 1]), o8, Z (frs [(0, 1), (1, 3), (2, 3), (1, 1)]), Z (.bl false), none]) := by kernel_rfl
theorem D3_34 (x p : S) (o4 o6 o7 o8 o9 o10 : Option S) : segD ([some x, some p, I 3, Z (fr (3, 4)), o4, Z (frs [(0, 1), (9, 13), (12, 13), (1, 1)]), o6, o7, o8, o9, o10, none]) = .rt (.fz (.bl true)) ([some x, some p, I 3, Z (fr (3, 4)), o4, Z (frs [(0, 1), (9, 13), (12, 13), (1, 1)]), o6, o7, o8, o9, o10, none]) := by kernel_rfl
theorem A4_12 (x p : S) : sSeq segA segB ([some x, some p, I 4, Z (fr (1, 2)), none, none, none, none, none, none, none, none]) = .nx ([some x, some p, I 4, Z (fr (1, 2)), Z (nums [1, 2, 1]), Z (frs [(0, 1), (1, 4), (1, 2), (3, 4), (1, 1)]), Z (.lst ([[1, 1, 1], [1, 2, 1]].map nums)), Z (nums [1, 2, 1]), none, Z (frs [(0, 1), (1, 4), (1, 2), (3, 4), (1, 1)]), none, none]) := by kernel_rfl
theorem L4_12 (x p : S) (o4 o6 o7 o8 o9 o10 : Option S) : t9 ([some x, some p, I 4, Z (fr (1, 2)), o4, Z (frs [(0, 1), (1, 4), (1, 2), (3, 4), (1, 1)]), o6, o7, o8, o9, o10, none]) = .ok (.lst [frs [(0, 1), (1, 4), (1, 2), (3, 4), (1, 1)], frs [(0, 1), (1, 4), (1, 2), (3, 4), (1, 1)]], [some x, some p, I 4, Z (fr (1, 2)), o4, Z (frs [(0, 1), (1, 4), (1, 2), (3, 4), (1, 1)]), o6, o7, o8, o9, o10, none]) := by kernel_rfl
theorem C4_12_0_0 (x p : S) (o4 o5 o6 o8 o10 : Option S) : segC ([some x, some p, I 4, Z (fr (1, 2)), o4, o5, o6, some (.lst ([1, 1, 1].map .int)), o8, Z (frs [(0, 1), (1, 4), (1, 2), (3, 4), (1, 1)]), o10, none]) = .nx ([some x, some p, I 4, Z (fr (1, 2)), o4, o5, o6, Z (nums [1, 1, 1]), o8, Z (frs [(0, 1), (1, 4), (1, 2), (3, 4), (1, 1)]), Z (.bl true), none]) := by kernel_rfl
theorem C4_12_0_1 (x p : S) (o4 o5 o6 o8 o10 : Option S) : segC ([some x, some p, I 4, Z (fr (1, 2)), o4, o5, o6, some (.lst ([1, 1, 1].map .int)), o8, Z (frs [(0, 1), (1, 4), (1, 2), (3, 4), (1, 1)]), o10, none]) = .nx ([some x, some p, I 4, Z (fr (1, 2)), o4, o5, o6, Z (nums [1, 1, 1]), o8, Z (frs [(0, 1), (1, 4), (1, 2), (3, 4), (1, 1)]), Z (.bl true), none]) := by kernel_rfl
theorem C4_12_1_0 (x p : S) (o4 o5 o6 o8 o10 : Option S) : segC ([some x, some p, I 4, Z (fr (1, 2)), o4, o5, o6, some (.lst ([1, 2, 1].map .int)), o8, Z (frs [(0, 1), (1, 4), (1, 2), (3, 4), (1, 1)]), o10, none]) = .nx ([some x, some p, I 4, Z (fr (1, 2)), o4, o5, o6, Z (nums [1, 2, 1]), o8, Z (frs [(0, 1), (1, 4), (1, 2), (3, 4), (1, 1)]), Z (.bl true), none]) := by kernel_rfl
theorem C4_12_1_1 (x p : S) (o4 o5 o6 o8 o10 : Option S) : segC ([some x, some p, I 4, Z (fr (1, 2)), o4, o5, o6, some (.lst ([1, 2, 1].map .int)), o8, Z (frs [(0, 1), (1, 4), (1, 2), (3, 4), (1, 1)]), o10, none]) = .nx ([some x, some p, I 4, Z (fr (1, 2)), o4, o5, o6, Z (nums [1, 2, 1]), o8, Z (frs [(0, 1), (1, 4), (1, 2), (3, 4), (1, 1)]), Z (.bl true), none]) := by kernel_rfl
theorem D4_12 (x p : S) (o4 o6 o7 o8 o9 o10 : Option S) : segD ([some x, some p, I 4, Z (fr (1, 2)), o4, Z (frs [(0, 1), (1, 4), (1, 2), (3, 4), (1, 1)]), o6, o7, o8, o9, o10, none]) = .rt (.fz (.bl true)) ([some x, some p, I 4, Z (fr (1, 2)), o4, Z (frs [(0, 1), (1, 4), (1, 2), (3, 4), (1, 1)]), o6, o7, o8, o9, o10, none]) := by kernel_rfl
theorem A4_13 (x p : S) : sSeq segA segB ([some x, some p, I 4, Z (fr (1, 3)), none, none, none, none, none, none, none, none]) = .nx ([some x, some p, I 4, Z (fr (1, 3)), Z (nums [1, 2, 1]), Z (frs [(0, 1), (1, 9), (1, 3), (5, 9), (1, 1)]), Z (.lst ([[1, 1, 1], [1, 2, 1]].map nums)), Z (nums [1, 2, 1]), none, Z (frs [(0, 1), (1, 9), (1, 3), (5, 9), (1, 1)]), none, none]) := by kernel_rfl
theorem L4_13 (x p : S) (o4 o6 o7 o8 o9 o10 : Option S) : t9 ([some x, some p, I 4, Z (fr (1, 3)), o4, Z (frs [(0, 1), (1, 9), (1, 3), (5, 9), (1, 1)]), o6, o7, o8, o9, o10, none]) = .ok (.lst [frs [(0, 1), (1, 9), (1, 3), (5, 9), (1, 1)], frs [(0, 1), (1, 4), (1, 2), (3, 4), (1, 1)]], [some x, some p, I 4, Z (fr (1, 3)), o4, Z (frs [(0, 1), (1, 9), (1, 3), (5, 9), (1, 1)]), o6, o7, o8, o9, o10, none]) := by kernel_rfl
theorem C4_13_0_0 (x p : S) (o4 o5 o6 o8 o10 : Option S) : segC ([some x, some p, I 4, Z (fr (1, 3)), o4, o5, o6, some (.lst ([1, 1, 1].map .int)), o8, Z (frs [(0, 1), (1, 9), (1, 3), (5, 9), (1, 1)]), o10, none]) = .nx ([some x, some p, I 4, Z (fr (1, 3)), o4, o5, o6, Z (nums [1, 1, 1]), o8, Z (frs [(0, 1), (1, 9), (1, 3), (5, 9), (1, 1)]), Z (.bl false), none]) := by kernel_rfl
theorem C4_13_0_1 (x p : S) (o4 o5 o6 o8 o10 : Option S) : segC ([some x, some p, I 4, Z (fr (1, 3)), o4, o5, o6, some (.lst ([1, 1, 1].map .int)), o8, Z (frs [(0, 1), (1, 4), (1, 2), (3, 4), (1, 1)]), o10, none]) = .nx ([some x, some p, I 4, Z (fr (1, 3)), o4, o5, o6, Z (nums [1, 1, 1]), o8, Z (frs [(0, 1), (1, 4), (1, 2), (3, 4), (1, 1)]), Z (.bl false), none]) := by kernel_rfl
theorem C4_13_1_0 (x p : S) (o4 o5 o6 o8 o10 : Option S) : segC ([some x, some p, I 4, Z (fr (1, 3)), o4, o5, o6, some (.lst ([1, 2, 1].map .int)), o8, Z (frs [(0, 1), (1, 9), (1, 3), (5, 9), (1, 1)]), o10, none]) = .nx ([some x, some p, I 4, Z (fr (1, 3)), o4, o5, o6, Z (nums [1, 2, 1]), o8, Z (frs [(0, 1), (1, 9), (1, 3), (5, 9), (1, 1)]), Z (.bl true), none]) := by kernel_rfl
theorem C4_13_1_1 (x p : S) (o4 o5 o6 o8 o10 : Option S) : segC ([some x, some p, I 4, Z (fr (1, 3)), o4, o5, o6, some (.lst ([1, 2, 1].map .int)), o8, Z (frs [(0, 1), (1, 4), (1, 2), (3, 4), (1, 1)]), o10, none]) = .nx ([some x, some p, I 4, Z (fr (1, 3)), o4, o5, o6, Z (nums [1, 2, 1]), o8, Z (frs [(0, 1), (1, 4), (1, 2), (3, 4), (1, 1)]), Z (.bl false), none]) := by kernel_rfl
theorem D4_13 (x p : S) (o4 o6 o7 o8 o9 o10 : Option S) : segD ([some x, some p, I 4, Z (fr (1, 3)), o4, Z (frs [(0, 1), (1, 9), (1, 3), (5, 9), (1, 1)]), o6, o7, o8, o9, o10, none]) = .rt (.fz (.bl true)) ([some x, some p, I 4, Z (fr (1, 3)), o4, Z (frs [(0, 1), (1, 9), (1, 3), (5, 9), (1, 1)]), o6, o7, o8, o9, o10, none]) := by kernel_rfl
theorem A4_23 (x p : S) : sSeq segA segB ([some x, some p, I 4, Z (fr (2, 3)), none, none, none, none, none, none, none, none]) = .nx ([some x, some p, I 4, Z (fr (2, 3)), Z (nums [1, 1, 1]), Z (frs [(0, 1), (8, 15), (4, 5), (14, 15), (1, 1)]), Z (.lst ([[1, 1, 1], [1, 2, 1]].map nums)), Z (nums [1, 2, 1]), none, Z (frs [(0, 1), (4, 9), (2, 3), (8, 9), (1, 1)]), none, none]) := by kernel_rfl
theorem L4_23 (x p : S) (o4 o6 o7 o8 o9 o10 : Option S) : t9 ([some x, some p, I 4, Z (fr (2, 3)), o4, Z (frs [(0, 1), (8, 15), (4, 5), (14, 15), (1, 1)]), o6, o7, o8, o9, o10, none]) = .ok (.lst [frs [(0, 1), (8, 15), (4, 5), (14, 15), (1, 1)], frs [(0, 1), (1, 4), (1, 2), (3, 4), (1, 1)]], [some x, some p, I 4, Z (fr (2, 3)), o4, Z (frs [(0, 1), (8, 15), (4, 5), (14, 15), (1, 1)]), o6, o7, o8, o9, o10, none]) := by kernel_rfl
theorem C4_23_0_0 (x p : S) (o4 o5 o6 o8 o10 : Option S) : segC ([some x, some p, I 4, Z (fr (2, 3)), o4, o5, o6, some (.lst ([1, 1, 1].map .int)), o8, Z (frs [(0, 1), (8, 15), (4, 5), (14, 15), (1, 1)]), o10, none]) = .nx ([some x, some p, I 4, Z (fr (2, 3)), o4, o5, o6, Z (nums [1, 1, 1]), o8, Z (frs [(0, 1), (8, 15), (4, 5), (14, 15), (1, 1)]), Z (.bl true), none]) := by kernel_rfl
theorem C4_23_0_1 (x p : S) (o4 o5 o6 o8 o10 : Option S) : segC ([some x, some p, I 4, Z (fr (2, 3)), o4, o5, o6, some (.lst ([1, 1, 1].map .int)), o8, Z (frs [(0, 1), (1, 4), (1, 2), (3, 4), (1, 1)]), o10, none]) = .nx ([some x, some p, I 4, Z (fr (2, 3)), o4, o5, o6, Z (nums [1, 1, 1]), o8, Z (frs [(0, 1), (1, 4), (1, 2), (3, 4), (1, 1)]), Z (.bl false), none]) := by kernel_rfl
theorem C4_23_1_0 (x p : S) (o4 o5 o6 o8 o10 : Option S) : segC ([some x, some p, I 4, Z (fr (2, 3)), o4, o5, o6, some (.lst ([1, 2, 1].map .int)), o8, Z (frs [(0, 1), (8, 15), (4, 5), (14, 15), (1, 1)]), o10, none]) = .nx ([some x, some p, I 4, Z (fr (2, 3)), o4, o5, o6, Z (nums [1, 2, 1]), o8, Z (frs [(0, 1), (8, 15), (4, 5), (14, 15), (1, 1)]), Z (.bl false), none]) := by kernel_rfl
theorem C4_23_1_1 (x p : S) (o4 o5 o6 o8 o10 : Option S) : segC ([some x, some p, I 4, Z (fr (2, 3)), o4, o5, o6, some (.lst ([1, 2, 1].map .int)), o8, Z (frs [(0, 1), (1, 4), (1, 2), (3, 4), (1, 1)]), o10, none]) = .nx ([some x, some p, I 4, Z (fr (2, 3)), o4, o5, o6, Z (nums [1, 2, 1]), o8, Z (frs [(0, 1), (1, 4), (1, 2), (3, 4), (1, 1)]), Z (.bl false), none]) := by kernel_rfl
theorem D4_23 (x p : S) (o4 o6 o7 o8 o9 o10 : Option S) : segD ([some x, some p, I 4, Z (fr (2, 3)), o4, Z (frs [(0, 1), (8, 15), (4, 5), (14, 15), (1, 1)]), o6, o7, o8, o9, o10, none]) = .rt (.fz (.bl true)) ([some x, some p, I 4, Z (fr (2, 3)), o4, Z (frs [(0, 1), (8, 15), (4, 5), (14, 15), (1, 1)]), o6, o7, o8, o9, o10, none]) := by kernel_rfl
theorem A4_25 (x p : S) : sSeq segA segB ([some x, some p, I 4, Z (fr (2, 5)), none, none, none, none, none, none, none, none]) = .nx ([some x, some p, I 4, Z (fr (2, 5)), Z (nums [1, 2, 1]), Z (frs [(0, 1), (4, 25), (2, 5), (16, 25), (1, 1)]), Z (.lst ([[1, 1, 1], [1, 2, 1]].map nums)), Z (nums [1, 2, 1]), none, Z (frs [(0, 1), (4, 25), (2, 5), (16, 25), (1, 1)]), none, none]) := by kernel_rfl
theorem L4_25 (x p : S) (o4 o6 o7 o8 o9 o10 : Option S) : t9 ([some x, some p, I 4, Z (fr (2, 5)), o4, Z (frs [(0, 1), (4, 25), (2, 5), (16, 25), (1, 1)]), o6, o7, o8, o9, o10, none]) = .ok (.lst [frs [(0, 1), (4, 25), (2, 5), (16, 25), (1, 1)], frs [(0, 1), (1, 4), (1, 2), (3, 4), (1, 1)]], [some x, some p, I 4, Z (fr (2, 5)), o4, Z (frs [(0, 1), (4, 25), (2, 5), (16, 25), (1, 1)]), o6, o7, o8, o9, o10, none]) := by kernel_rfl
theorem C4_25_0_0 (x p : S) (o4 o5 o6 o8 o10 : Option S) : segC ([some x, some p, I 4, Z (fr (2, 5)), o4, o5, o6, some (.lst ([1, 1, 1].map .int)), o8, Z (frs [(0, 1), (4, 25), (2, 5), (16, 25), (1, 1)]), o10, none]) = .nx ([some x, some p, I 4, Z (fr (2, 5)), o4, o5, o6, Z (nums [1, 1, 1]), o8, Z (frs [(0, 1), (4, 25), (2, 5), (16, 25), (1, 1)]), Z (.bl false), none]) := by kernel_rfl
theorem C4_25_0_1 (x p : S) (o4 o5 o6 o8 o10 : Option S) : segC ([some x, some p, I 4, Z (fr (2, 5)), o4, o5, o6, some (.lst ([1, 1, 1].map .int)), o8, Z (frs [(0, 1), (1, 4), (1, 2), (3, 4), (1, 1)]), o10, none]) = .nx ([some x, some p, I 4, Z (fr (2, 5)), o4, o5, o6, Z (nums [1, 1, 1]), o8, Z (frs [(0, 1), (1, 4), (1, 2), (3, 4), (1, 1)]), Z (.bl false), none]) := by kernel_rfl
theorem C4_25_1_0 (x p : S) (o4 o5 o6 o8 o10 : Option S) : segC ([some x, some p, I 4, Z (fr (2, 5)), o4, o5, o6, some (.lst ([1, 2, 1].map .int)), o8, Z (frs [(0, 1), (4, 25), (2, 5), (16, 25), (1, 1)]), o10, none]) = .nx ([some x, some p, I 4, Z (fr (2, 5)), o4, o5, o6, Z (nums [1, 2, 1]), o8, Z (frs [(0, 1), (4, 25), (2, 5), (16, 25), (1, 1)]), Z (.bl true), none]) := by kernel_rfl
theorem C4_25_1_1 (x p : S) (o4 o5 o6 o8 o10 : Option S) : segC ([some x, some p, I 4, Z (fr (2, 5)), o4, o5, o6, some (.lst ([1, 2, 1].map .int)), o8, Z (frs [(0, 1), (1, 4), (1, 2), (3, 4), (1, 1)]), o10, none]) = .nx ([some x, some p, I 4, Z (fr (2, 5)), o4, o5, o6, Z (nums [1, 2, 1]), o8, Z (frs [(0, 1), (1, 4), (1, 2), (3, 4), (1, 1)]), Z (.bl false), none]) := by kernel_rfl
theorem D4_25 (x p : S) (o4 o6 o7 o8 o9 o10 : Option S) : segD ([some x, some p, I 4, Z (fr (2, 5)), o4, Z (frs [(0, 1), (4, 25), (2, 5), (16, 25), (1, 1)]), o6, o7, o8, o9, o10, none]) = .rt (.fz (.bl true)) ([some x, some p, I 4, Z (fr (2, 5)), o4, Z (frs [(0, 1), (4, 25), (2, 5), (16, 25), (1, 1)]), o6, o7, o8, o9, o10, none]) := by kernel_rfl
theorem A4_34 (x p : S) : sSeq segA segB ([some x, some p, I 4, Z (fr (3, 4)), none, none, none, none, none, none, none, none]) = .nx ([some x, some p, I 4, Z (fr (3, 4)), Z (nums [1, 1, 1]), Z (frs [(0, 1), (27, 40), (9, 10), (39, 40), (1, 1)]), Z (.lst ([[1, 1, 1], [1, 2, 1]].map nums)), Z (nums [1, 2, 1]), none, Z (frs [(0, 1), (9, 16), (3, 4), (15, 16), (1, 1)]), none, none]) := by kernel_rfl
theorem L4_34 (x p : S) (o4 o6 o7 o8 o9 o10 : Option S) : t9 ([some x, some p, I 4, Z (fr (3, 4)), o4, Z (frs [(0, 1), (27, 40), (9, 10), (39, 40), (1, 1)]), o6, o7, o8, o9, o10, none]) = .ok (.lst [frs [(0, 1), (27, 40), (9, 10), (39, 40), (1, 1)], frs [(0, 1), (1, 4), (1, 2), (3, 4), (1, 1)]], [some x, some p, I 4, Z (fr (3, 4)), o4, Z (frs [(0, 1), (27, 40), (9, 10), (39, 40), (1, 1)]), o6, o7, o8, o9, o10, none]) := by kernel_rfl
theorem C4_34_0_0 (x p : S) (o4 o5 o6 o8 o10 : Option S) : segC ([some x, some p, I 4, Z (fr (3, 4)), o4, o5, o6, some (.lst ([1, 1, 1].map .int)), o8, Z (frs [(0, 1), (27, 40), (9, 10), (39, 40), (1, 1)]), o10, none]) = .nx ([some x, some p, I 4, Z (fr (3, 4)), o4, o5, o6, Z (nums [1, 1, 1]), o8, Z (frs [(0, 1), (27, 40), (9, 10), (39, 40), (1, 1)]), Z (.bl true), none]) := by kernel_rfl
theorem C4_34_0_1 (x p : S) (o4 o5 o6 o8 o10 : Option S) : segC ([some x, some p, I 4, Z (fr (3, 4)), o4, o5, o6, some (.lst ([1, 1, 1].map .int)), o8, Z (frs [(0, 1), (1, 4), (1, 2), (3, 4), (1, 1)]), o10, none]) = .nx ([some x, some p, I 4, Z (fr (3, 4)), o4, o5, o6, Z (nums [1, 1, 1]), o8, Z (frs [(0, 1), (1, 4), (1, 2), (3, 4), (1, 1)]), Z (.bl false), none]) := by kernel_rfl
theorem C4_34_1_0 (x p : S) (o4 o5 o6 o8 o10 : Option S) : segC ([some x, some p, I 4, Z (fr (3, 4)), o4, o5, o6, some (.lst ([1, 2, 1].map .int)), o8, Z (frs [(0, 1), (27, 40), (9, 10), (39, 40), (1, 1)]), o10, none]) = .nx ([some x, some p, I 4, Z (fr (3, 4)), o4, o5, o6, Z (nums [1, 2, 1]), o8, Z (frs [(0, 1), (27, 40), (9, 10), (39, 40), (1, 1)]), Z (.bl false), none]) := by kernel_rfl
theorem C4_34_1_1 (x p : S) (o4 o5 o6 o8 o10 : Option S) : segC ([some x, some p, I 4, Z (fr (3, 4)), o4, o5, o6, some (.lst ([1, 2, 1].map .int)), o8, Z (frs [(0, 1), (1, 4), (1, 2), (3, 4), (1, 1)]), o10, none]) = .nx ([some x, some p, I 4, Z (fr (3, 4)), o4, o5, o6, Z (nums [1, 2, 1]), o8, Z (frs [(0, 1), (1, 4), (1, 2), (3, 4), (1, 1)]), Z (.bl false), none]) := by kernel_rfl
theorem D4_34 (x p : S) (o4 o6 o7 o8 o9 o10 : Option S) : segD ([some x, some p, I 4, Z (fr (3, 4)), o4, Z (frs [(0, 1), (27, 40), (9, 10), (39, 40), (1, 1)]), o6, o7, o8, o9, o10, none]) = .rt (.fz (.bl true)) ([some x, some p, I 4, Z (fr (3, 4)), o4, Z (frs [(0, 1), (27, 40), (9, 10), (39, 40), (1, 1)]), o6, o7, o8, o9, o10, none]) := by kernel_rfl
theorem A5_12 (x p : S) : sSeq segA segB ([some x, some p, I 5, Z (fr (1, 2)), none, none, none, none, none, none, none, none]) = .nx ([some x, some p, I 5, Z (fr (1, 2)), Z (nums [1, 2, 2, 1]), Z (frs [(0, 1), (1, 5), (2, 5), (3, 5), (4, 5), (1, 1)]), Z (.lst ([[1, 1, 1, 1], [1, 1, 2, 1], [1, 2, 1, 1], [1, 2, 2, 1]].map nums)), Z (nums [1, 2, 2, 1]), none, Z (frs [(0, 1), (1, 5), (2, 5), (3, 5), (4, 5), (1, 1)]), none, none]) := by kernel_rfl
theorem L5_12 (x p : S) (o4 o6 o7 o8 o9 o10 : Option S) : t9 ([some x, some p, I 5, Z (fr (1, 2)), o4, Z (frs [(0, 1), (1, 5), (2, 5), (3, 5), (4, 5), (1, 1)]), o6, o7, o8, o9, o10, none]) = .ok (.lst [frs [(0, 1), (1, 5), (2, 5), (3, 5), (4, 5), (1, 1)], frs [(0, 1), (1, 5), (2, 5), (3, 5), (4, 5), (1, 1)]], [some x, some p, I 5, Z (fr (1, 2)), o4, Z (frs [(0, 1), (1, 5), (2, 5), (3, 5), (4, 5), (1, 1)]), o6, o7, o8, o9, o10, none]) := by kernel_rfl
theorem C5_12_0_0 (x p : S) (o4 o5 o6 o8 o10 : Option S) : segC ([some x, some p, I 5, Z (fr (1, 2)), o4, o5, o6, some (.lst ([1, 1, 1, 1].map .int)), o8, Z (frs [(0, 1), (1, 5), (2, 5), (3, 5), (4, 5), (1, 1)]), o10, none]) = .nx ([some x, some p, I 5, Z (fr (1, 2)), o4, o5, o6, Z (nums [1, 1, 1, 1]), o8, Z (frs [(0, 1), (1, 5), (2, 5), (3, 5), (4, 5), (1, 1)]), Z (.bl true), none]) := by kernel_rfl
theorem C5_12_0_1 (x p : S) (o4 o5 o6 o8 o10 : Option S) : segC ([some x, some p, I 5, Z (fr (1, 2)), o4, o5, o6, some (.lst ([1, 1, 1, 1].map .int)), o8, Z (frs [(0, 1), (1, 5), (2, 5), (3, 5), (4, 5), (1, 1)]), o10, none]) = .nx ([some x, some p, I 5, Z (fr (1, 2)), o4, o5, o6, Z (nums [1, 1, 1, 1]), o8, Z (frs [(0, 1), (1, 5), (2, 5), (3, 5), (4, 5), (1, 1)]), Z (.bl true), none]) := by kernel_rfl
theorem C5_12_1_0 (x p : S) (o4 o5 o6 o8 o10 : Option S) : segC ([some x, some p, I 5, Z (fr (1, 2)), o4, o5, o6, some (.lst ([1, 1, 2, 1].map .int)), o8, Z (frs [(0, 1), (1, 5), (2, 5), (3, 5), (4, 5), (1, 1)]), o10, none]) = .nx ([some x, some p, I 5, Z (fr (1, 2)), o4, o5, o6, Z (nums [1, 1, 2, 1]), o8, Z (frs [(0, 1), (1, 5), (2, 5), (3, 5), (4, 5), (1, 1)]), Z (.bl true), none]) := by kernel_rfl
theorem C5_12_1_1 (x p : S) (o4 o5 o6 o8 o10 : Option S) : segC ([some x, some p, I 5, Z (fr (1, 2)), o4, o5, o6, some (.lst ([1, 1, 2, 1].map .int)), o8, Z (frs [(0, 1), (1, 5), (2, 5), (3, 5), (4, 5), (1, 1)]), o10, none]) = .nx ([some x, some p, I 5, Z (fr (1, 2)), o4, o5, o6, Z (nums [1, 1, 2, 1]), o8, Z (frs [(0, 1), (1, 5), (2, 5), (3, 5), (4, 5), (1, 1)]), Z (.bl true), none]) := by kernel_rfl
theorem C5_12_2_0 (x p : S) (o4 o5 o6 o8 o10 : Option S) : segC ([some x, some p, I 5, Z (fr (1, 2)), o4, o5, o6, some (.lst ([1, 2, 1, 1].map .int)), o8, Z (frs [(0, 1), (1, 5), (2, 5), (3, 5), (4, 5), (1, 1)]), o10, none]) = .nx ([some x, some p, I 5, Z (fr (1, 2)), o4, o5, o6, Z (nums [1, 2, 1, 1]), o8, Z (frs [(0, 1), (1, 5), (2, 5), (3, 5), (4, 5), (1, 1)]), Z (.bl true), none]) := by kernel_rfl
theorem C5_12_2_1 (x p : S) (o4 o5 o6 o8 o10 : Option S) : segC ([some x, some p, I 5, Z (fr (1, 2)), o4, o5, o6, some (.lst ([1, 2, 1, 1].map .int)), o8, Z (frs [(0, 1), (1, 5), (2, 5), (3, 5), (4, 5), (1, 1)]), o10, none]) = .nx ([some x, some p, I 5, Z (fr (1, 2)), o4, o5, o6, Z (nums [1, 2, 1, 1]), o8, Z (frs [(0, 1), (1, 5), (2, 5), (3, 5), (4, 5), (1, 1)]), Z (.bl true), none]) := by kernel_rfl
theorem C5_12_3_0 (x p : S) (o4 o5 o6 o8 o10 : Option S) : segC ([some x, some p, I 5, Z (fr (1, 2)), o4, o5, o6, some (.lst ([1, 2, 2, 1].map .int)), o8, Z (frs [(0, 1), (1, 5), (2, 5), (3, 5), (4, 5), (1, 1)]), o10, none]) = .nx ([some x, some p, I 5, Z (fr (1, 2)), o4, o5, o6, Z (nums [1, 2, 2, 1]), o8, Z (frs [(0, 1), (1, 5), (2, 5), (3, 5), (4, 5), (1, 1)]), Z (.bl true), none]) := by kernel_rfl
theorem C5_12_3_1 (x p : S) (o4 o5 o6 o8 o10 : Option S) : segC ([some x, some p, I 5, Z (fr (1, 2)), o4, o5, o6, some (.lst ([1, 2, 2, 1].map .int)), o8, Z (frs [(0, 1), (1, 5), (2, 5), (3, 5), (4, 5), (1, 1)]), o10, none]) = .nx ([some x, some p, I 5, Z (fr (1, 2)), o4, o5, o6, Z (nums [1, 2, 2, 1]), o8, Z (frs [(0, 1), (1, 5), (2, 5), (3, 5), (4, 5), (1, 1)]), Z (.bl true), none]) := by kernel_rfl
theorem D5_12 (x p : S) (o4 o6 o7 o8 o9 o10 : Option S) : segD ([some x, some p, I 5, Z (fr (1, 2)), o4, Z (frs [(0, 1), (1, 5), (2, 5), (3, 5), (4, 5), (1, 1)]), o6, o7, o8, o9, o10, none]) = .rt (.fz (.bl true)) ([some x, some p, I 5, Z (fr (1, 2)), o4, Z (frs [(0, 1), (1, 5), (2, 5), (3, 5), (4, 5), (1, 1)]), o6, o7, o8, o9, o10, none]) := by kernel_rfl
theorem A5_13 (x p : S) : sSeq segA segB ([some x, some p, I 5, Z (fr (1, 3)), none, none, none, none, none, none, none, none]) = .nx ([some x, some p, I 5, Z (fr (1, 3)), Z (nums [1, 2, 2, 1]), Z (frs [(0, 1), (5, 77), (15, 77), (29, 77), (45, 77), (1, 1)]), Z (.lst ([[1, 1, 1, 1], [1, 1, 2, 1], [1, 2, 1, 1], [1, 2, 2, 1]].map nums)), Z (nums [1, 2, 2, 1]), none, Z (frs [(0, 1), (5, 77), (15, 77), (29, 77), (45, 77), (1, 1)]), none, none]) := by kernel_rfl
theorem L5_13 (x p : S) (o4 o6 o7 o8 o9 o10 : Option S) : t9 ([some x, some p, I 5, Z (fr (1, 3)), o4, Z (frs [(0, 1), (5, 77), (15, 77), (29, 77), (45, 77), (1, 1)]), o6, o7, o8, o9, o10, none]) = .ok (.lst [frs [(0, 1), (5, 77), (15, 77), (29, 77), (45, 77), (1, 1)], frs [(0, 1), (1, 5), (2, 5), (3, 5), (4, 5), (1, 1)]], [some x, some p, I 5, Z (fr (1, 3)), o4, Z (frs [(0, 1), (5, 77), (15, 77), (29, 77), (45, 77), (1, 1)]), o6, o7, o8, o9, o10, none]) := by kernel_rfl
theorem C5_13_0_0 (x p : S) (o4 o5 o6 o8 o10 : Option S) : segC ([some x, some p, I 5, Z (fr (1, 3)), o4, o5, o6, some (.lst ([1, 1, 1, 1].map .int)), o8, Z (frs [(0, 1), (5, 77), (15, 77), (29, 77), (45, 77), (1, 1)]), o10, none]) = .nx ([some x, some p, I 5, Z (fr (1, 3)), o4, o5, o6, Z (nums [1, 1, 1, 1]), o8, Z (frs [(0, 1), (5, 77), (15, 77), (29, 77), (45, 77), (1, 1)]), Z (.bl false), none]) := by kernel_rfl
theorem C5_13_0_1 (x p : S) (o4 o5 o6 o8 o10 : Option S) : segC ([some x, some p, I 5, Z (fr (1, 3)), o4, o5, o6, some (.lst ([1, 1, 1, 1].map .int)), o8, Z (frs [(0, 1), (1, 5), (2, 5), (3, 5), (4, 5), (1, 1)]), o10, none]) = .nx ([some x, some p, I 5, Z (fr (1, 3)), o4, o5, o6, Z (nums [1, 1, 1, 1]), o8, Z (frs [(0, 1), (1, 5), (2, 5), (3, 5), (4, 5), (1, 1)]), Z (.bl false), none]) := by kernel_rfl
theorem C5_13_1_0 (x p : S) (o4 o5 o6 o8 o10 : Option S) : segC ([some x, some p, I 5, Z (fr (1, 3)), o4, o5, o6, some (.lst ([1, 1, 2, 1].map .int)), o8, Z (frs [(0, 1), (5, 77), (15, 77), (29, 77), (45, 77), (1, 1)]), o10, none]) = .nx ([some x, some p, I 5, Z (fr (1, 3)), o4, o5, o6, Z (nums [1, 1, 2, 1]), o8, Z (frs [(0, 1), (5, 77), (15, 77), (29, 77), (45, 77), (1, 1)]), Z (.bl false), none]) := by kernel_rfl
theorem C5_13_1_1 (x p : S) (o4 o5 o6 o8 o10 : Option S) : segC ([some x, some p, I 5, Z (fr (1, 3)), o4, o5, o6, some (.lst ([1, 1, 2, 1].map .int)), o8, Z (frs [(0, 1), (1, 5), (2, 5), (3, 5), (4, 5), (1, 1)]), o10, none]) = .nx ([some x, some p, I 5, Z (fr (1, 3)), o4, o5, o6, Z (nums [1, 1, 2, 1]), o8, Z (frs [(0, 1), (1, 5), (2, 5), (3, 5), (4, 5), (1, 1)]), Z (.bl false), none]) := by kernel_rfl
theorem C5_13_2_0 (x p : S) (o4 o5 o6 o8 o10 : Option S) : segC ([some x, some p, I 5, Z (fr (1, 3)), o4, o5, o6, some (.lst ([1, 2, 1, 1].map .int)), o8, Z (frs [(0, 1), (5, 77), (15, 77), (29, 77), (45, 77), (1, 1)]), o10, none]) = .nx ([some x, some p, I 5, Z (fr (1, 3)), o4, o5, o6, Z (nums [1, 2, 1, 1]), o8, Z (frs [(0, 1), (5, 77), (15, 77), (29, 77), (45, 77), (1, 1)]), Z (.bl false), none]) := by kernel_rfl
theorem C5_13_2_1 (x p : S) (o4 o5 o6 o8 o10 : Option S) : segC ([some x, some p, I 5, Z (fr (1, 3)), o4, o5, o6, some (.lst ([1, 2, 1, 1].map .int)), o8, Z (frs [(0, 1), (1, 5), (2, 5), (3, 5), (4, 5), (1, 1)]), o10, none]) = .nx ([some x, some p, I 5, Z (fr (1, 3)), o4, o5, o6, Z (nums [1, 2, 1, 1]), o8, Z (frs [(0, 1), (1, 5), (2, 5), (3, 5), (4, 5), (1, 1)]), Z (.bl false), none]) := by kernel_rfl
theorem C5_13_3_0 (x p : S) (o4 o5 o6 o8 o10 : Option S) : segC ([some x, some p, I 5, Z (fr (1, 3)), o4, o5, o6, some (.lst ([1, 2, 2, 1].map .int)), o8, Z (frs [(0, 1), (5, 77), (15, 77), (29, 77), (45, 77), (1, 1)]), o10, none]) = .nx ([some x, some p, I 5, Z (fr (1, 3)), o4, o5, o6, Z (nums [1, 2, 2, 1]), o8, Z (frs [(0, 1), (5, 77), (15, 77), (29, 77), (45, 77), (1, 1)]), Z (.bl true), none]) := by kernel_rfl
theorem C5_13_3_1 (x p : S) (o4 o5 o6 o8 o10 : Option S) : segC ([some x, some p, I 5, Z (fr (1, 3)), o4, o5, o6, some (.lst ([1, 2, 2, 1].map .int)), o8, Z (frs [(0, 1), (1, 5), (2, 5), (3, 5), (4, 5), (1, 1)]), o10, none]) = .nx ([some x, some p, I 5, Z (fr (1, 3)), o4, o5, o6, Z (nums [1, 2, 2, 1]), o8, Z (frs [(0, 1), (1, 5), (2, 5), (3, 5), (4, 5), (1, 1)]), Z (.bl false), none]) := by kernel_rfl
theorem D5_13 (x p : S) (o4 o6 o7 o8 o9 o10 : Option S) : segD ([some x, some p, I 5, Z (fr (1, 3)), o4, Z (frs [(0, 1), (5, 77), (15, 77), (29, 77), (45, 77), (1, 1)]), o6, o7, o8, o9, o10, none]) = .rt (.fz (.bl true)) ([some x, some p, I 5, Z (fr (1, 3)), o4, Z (frs [(0, 1), (5, 77), (15, 77), (29, 77), (45, 77), (1, 1)]), o6, o7, o8, o9, o10, none]) := by kernel_rfl
theorem A5_23 (x p : S) : sSeq segA segB ([some x, some p, I 5, Z (fr (2, 3)), none, none, none, none, none, none, none, none]) = .nx ([some x, some p, I 5, Z (fr (2, 3)), Z (nums [1, 1, 1, 1]), Z (frs [(0, 1), (16, 31), (24, 31), (28, 31), (30, 31), (1, 1)]), Z (.lst ([[1, 1, 1, 1], [1, 1, 2, 1], [1, 2, 1, 1], [1, 2, 2, 1]].map nums)), Z (nums [1, 2, 2, 1]), none, Z (frs [(0, 1), (32, 77), (48, 77), (62, 77), (72, 77), (1, 1)]), none, none]) := by kernel_rfl
theorem L5_23 (x p : S) (o4 o6 o7 o8 o9 o10 : Option S) : t9 ([some x, some p, I 5, Z (fr (2, 3)), o4, Z (frs [(0, 1), (16, 31), (24, 31), (28, 31), (30, 31), (1, 1)]), o6, o7, o8, o9, o10, none]) = .ok (.lst [frs [(0, 1), (16, 31), (24, 31), (28, 31), (30, 31), (1, 1)], frs [(0, 1), (1, 5), (2, 5), (3, 5), (4, 5), (1, 1)]], [some x, some p, I 5, Z (fr (2, 3)), o4, Z (frs [(0, 1), (16, 31), (24, 31), (28, 31), (30, 31), (1, 1)]), o6, o7, o8, o9, o10, none]) := by kernel_rfl
theorem C5_23_0_0 (x p : S) (o4 o5 o6 o8 o10 : Option S) : segC ([some x, some p, I 5, Z (fr (2, 3)), o4, o5, o6, some (.lst ([1, 1, 1, 1].map .int)), o8, Z (frs [(0, 1), (16, 31), (24, 31), (28, 31), (30, 31), (1, 1)]), o10, none]) = .nx ([some x, some p, I 5, Z (fr (2, 3)), o4, o5, o6, Z (nums [1, 1, 1, 1]), o8, Z (frs [(0, 1), (16, 31), (24, 31), (28, 31), (30, 31), (1, 1)]), Z (.bl true), none]) := by kernel_rfl
theorem C5_23_0_1 (x p : S) (o4 o5 o6 o8 o10 : Option S) : segC ([some x, some p, I 5, Z (fr (2, 3)), o4, o5, o6, some (.lst ([1, 1, 1, 1].map .int)), o8, Z (frs [(0, 1), (1, 5), (2, 5), (3, 5), (4, 5), (1, 1)]), o10, none]) = .nx ([some x, some p, I 5, Z (fr (2, 3)), o4, o5, o6, Z (nums [1, 1, 1, 1]), o8, Z (frs [(0, 1), (1, 5), (2, 5), (3, 5), (4, 5), (1, 1)]), Z (.bl false), none]) := by kernel_rfl
theorem C5_23_1_0 (x p : S) (o4 o5 o6 o8 o10 : Option S) : segC ([some x, some p, I 5, Z (fr (2, 3)), o4, o5, o6, some (.lst ([1, 1, 2, 1].map .int)), o8, Z (frs [(0, 1), (16, 31), (24, 31), (28, 31), (30, 31), (1, 1)]), o10, none]) = .nx ([some x, some p, I 5, Z (fr (2, 3)), o4, o5, o6, Z (nums [1, 1, 2, 1]), o8, Z (frs [(0, 1), (16, 31), (24, 31), (28, 31), (30, 31), (1, 1)]), Z (.bl false), none]) := by kernel_rfl
theorem C5_23_1_1 (x p : S) (o4 o5 o6 o8 o10 : Option S) : segC ([some x, some p, I 5, Z (fr (2, 3)), o4, o5, o6, some (.lst ([1, 1, 2, 1].map .int)), o8, Z (frs [(0, 1), (1, 5), (2, 5), (3, 5), (4, 5), (1, 1)]), o10, none]) = .nx ([some x, some p, I 5, Z (fr (2, 3)), o4, o5, o6, Z (nums [1, 1, 2, 1]), o8, Z (frs [(0, 1), (1, 5), (2, 5), (3, 5), (4, 5), (1, 1)]), Z (.bl false), none]) := by kernel_rfl
theorem C5_23_2_0 (x p : S) (o4 o5 o6 o8 o10 : Option S) : segC ([some x, some p, I 5, Z (fr (2, 3)), o4, o5, o6, some (.lst ([1, 2, 1, 1].map .int)), o8, Z (frs [(0, 1), (16, 31), (24, 31), (28, 31), (30, 31), (1, 1)]), o10, none]) = .nx ([some x, some p, I 5, Z (fr (2, 3)), o4, o5, o6, Z (nums [1, 2, 1, 1]), o8, Z (frs [(0, 1), (16, 31), (24, 31), (28, 31), (30, 31), (1, 1)]), Z (.bl false), none]) := by kernel_rfl
theorem C5_23_2_1 (x p : S) (o4 o5 o6 o8 o10 : Option S) : segC ([some x, some p, I 5, Z (fr (2, 3)), o4, o5, o6, some (.lst ([1, 2, 1, 1].map .int)), o8, Z (frs [(0, 1), (1, 5), (2, 5), (3, 5), (4, 5), (1, 1)]), o10, none]) = .nx ([some x, some p, I 5, Z (fr (2, 3)), o4, o5, o6, Z (nums [1, 2, 1, 1]), o8, Z (frs [(0, 1), (1, 5), (2, 5), (3, 5), (4, 5), (1, 1)]), Z (.bl false), none]) := by kernel_rfl
theorem C5_23_3_0 (x p : S) (o4 o5 o6 o8 o10 : Option S) : segC ([some x, some p, I 5, Z (fr (2, 3)), o4, o5, o6, some (.lst ([1, 2, 2, 1].map .int)), o8, Z (frs [(0, 1), (16, 31), (24, 31), (28, 31), (30, 31), (1, 1)]), o10, none]) = .nx ([some x, some p, I 5, Z (fr (2, 3)), o4, o5, o6, Z (nums [1, 2, 2, 1]), o8, Z (frs [(0, 1), (16, 31), (24, 31), (28, 31), (30, 31), (1, 1)]), Z (.bl false), none]) := by kernel_rfl
theorem C5_23_3_1 (x p : S) (o4 o5 o6 o8 o10 : Option S) : segC ([some x, some p, I 5, Z (fr (2, 3)), o4, o5, o6, some (.lst ([1, 2, 2, 1].map .int)), o8, Z (frs [(0, 1), (1, 5), (2, 5), (3, 5), (4, 5), (1, 1)]), o10, none]) = .nx ([some x, some p, I 5, Z (fr (2, 3)), o4, o5, o6, Z (nums [1, 2, 2, 1]), o8, Z (frs [(0, 1), (1, 5), (2, 5), (3, 5), (4, 5), (1, 1)]), Z (.bl false), none]) := by kernel_rfl
theorem D5_23 (x p : S) (o4 o6 o7 o8 o9 o10 : Option S) : segD ([some x, some p, I 5, Z (fr (2, 3)), o4, Z (frs [(0, 1), (16, 31), (24, 31), (28, 31), (30, 31), (1, 1)]), o6, o7, o8, o9, o10, none]) = .rt (.fz (.bl true)) ([some x, some p, I 5, Z (fr (2, 3)), o4, Z (frs [(0, 1), (16, 31), (24, 31), (28, 31), (30, 31), (1, 1)]), o6, o7, o8, o9, o10, none]) := by kernel_rfl
theorem A5_25 (x p : S) : sSeq segA segB ([some x, some p, I 5, Z (fr (2, 5)), none, none, none, none, none, none, none, none]) = .nx ([some x, some p, I 5, Z (fr (2, 5)), Z (nums [1, 2, 2, 1]), Z (frs [(0, 1), (64, 589), (160, 589), (274, 589), (400, 589), (1, 1)]), Z (.lst ([[1, 1, 1, 1], [1, 1, 2, 1], [1, 2, 1, 1], [1, 2, 2, 1]].map nums)), Z (nums [1, 2, 2, 1]), none, Z (frs [(0, 1), (64, 589), (160, 589), (274, 589), (400, 589), (1, 1)]), none, none]) := by kernel_rfl
theorem L5_25 (x p : S) (o4 o6 o7 o8 o9 o10 : Option S) : t9 ([some x, some p, I 5, Z (fr (2, 5)), o4, Z (frs [(0, 1), (64, 589), (160, 589), (274, 589), (400, 589), (1, 1)]), o6, o7, o8, o9, o10, none]) = .ok (.lst [frs [(0, 1), (64, 589), (160, 589), (274, 589), (400, 589), (1, 1)], frs [(0, 1), (1, 5), (2, 5), (3, 5), (4, 5), (1, 1)]], [some x, some p, I 5, Z (fr (2, 5)), o4, Z (frs [(0, 1), (64, 589), (160, 589), (274, 589), (400, 589), (1, 1)]), o6, o7, o8, o9, o10, none]) := by kernel_rfl
theorem C5_25_0_0 (x p : S) (o4 o5 o6 o8 o10 : Option S) : segC ([some x, some p, I 5, Z (fr (2, 5)), o4, o5, o6, some (.lst ([1, 1, 1, 1].map .int)), o8, Z (frs [(0, 1), (64, 589), (160, 589), (274, 589), (400, 589), (1, 1)]), o10, none]) = .nx ([some x, some p, I 5, Z (fr (2, 5)), o4, o5, o6, Z (nums [1, 1, 1, 1]), o8, Z (frs [(0, 1), (64, 589), (160, 589), (274, 589), (400, 589), (1, 1)]), Z (.bl false), none]) := by kernel_rfl
theorem C5_25_0_1 (x p : S) (o4 o5 o6 o8 o10 : Option S) : segC ([some x, some p, I 5, Z (fr (2, 5)), o4, o5, o6, some (.lst ([1, 1, 1, 1].map .int)), o8, Z (frs [(0, 1), (1, 5), (2, 5), (3, 5), (4, 5), (1, 1)]), o10, none]) = .nx ([some x, some p, I 5, Z (fr (2, 5)), o4, o5, o6, Z (nums [1, 1, 1, 1]), o8, Z (frs [(0, 1), (1, 5), (2, 5), (3, 5), (4, 5), (1, 1)]), Z (.bl false), none]) := by kernel_rfl
theorem C5_25_1_0 (x p : S) (o4 o5 o6 o8 o10 : Option S) : segC ([some x, some p, I 5, Z (fr (2, 5)), o4, o5, o6, some (.lst ([1, 1, 2, 1].map .int)), o8, Z (frs [(0, 1), (64, 589), (160, 589), (274, 589), (400, 589), (1, 1)]), o10, none]) = .nx ([some x, some p, I 5, Z (fr (2, 5)), o4, o5, o6, Z (nums [1, 1, 2, 1]), o8, Z (frs [(0, 1), (64, 589), (160, 589), (274, 589), (400, 589), (1, 1)]), Z (.bl false), none]) := by kernel_rfl
theorem C5_25_1_1 (x p : S) (o4 o5 o6 o8 o10 : Option S) : segC ([some x, some p, I 5, Z (fr (2, 5)), o4, o5, o6, some (.lst ([1, 1, 2, 1].map .int)), o8, Z (frs [(0, 1), (1, 5), (2, 5), (3, 5), (4, 5), (1, 1)]), o10, none]) = .nx ([some x, some p, I 5, Z (fr (2, 5)), o4, o5, o6, Z (nums [1, 1, 2, 1]), o8, Z (frs [(0, 1), (1, 5), (2, 5), (3, 5), (4, 5), (1, 1)]), Z (.bl false), none]) := by kernel_rfl
theorem C5_25_2_0 (x p : S) (o4 o5 o6 o8 o10 : Option S) : segC ([some x, some p, I 5, Z (fr (2, 5)), o4, o5, o6, some (.lst ([1, 2, 1, 1].map .int)), o8, Z (frs [(0, 1), (64, 589), (160, 589), (274, 589), (400, 589), (1, 1)]), o10, none]) = .nx ([some x, some p, I 5, Z (fr (2, 5)), o4, o5, o6, Z (nums [1, 2, 1, 1]), o8, Z (frs [(0, 1), (64, 589), (160, 589), (274, 589), (400, 589), (1, 1)]), Z (.bl false), none]) := by kernel_rfl
theorem C5_25_2_1 (x p : S) (o4 o5 o6 o8 o10 : Option S) : segC ([some x, some p, I 5, Z (fr (2, 5)), o4, o5, o6, some (.lst ([1, 2, 1, 1].map .int)), o8, Z (frs [(0, 1), (1, 5), (2, 5), (3, 5), (4, 5), (1, 1)]), o10, none]) = .nx ([some x, some p, I 5, Z (fr (2, 5)), o4, o5, o6, Z (nums [1, 2, 1, 1]), o8, Z (frs [(0, 1), (1, 5), (2, 5), (3, 5), (4, 5), (1, 1)]), Z (.bl false), none]) := by kernel_rfl
theorem C5_25_3_0 (x p : S) (o4 o5 o6 o8 o10 : Option S) : segC ([some x, some p, I 5, Z (fr (2, 5)), o4, o5, o6, some (.lst ([1, 2, 2, 1].map .int)), o8, Z (frs [(0, 1), (64, 589), (160, 589), (274, 589), (400, 589), (1, 1)]), o10, none]) = .nx ([some x, some p, I 5, Z (fr (2, 5)), o4, o5, o6, Z (nums [1, 2, 2, 1]), o8, Z (frs [(0, 1), (64, 589), (160, 589), (274, 589), (400, 589), (1, 1)]), Z (.bl true), none]) := by kernel_rfl
theorem C5_25_3_1 (x p : S) (o4 o5 o6 o8 o10 : Option S) : segC ([some x, some p, I 5, Z (fr (2, 5)), o4, o5, o6, some (.lst ([1, 2, 2, 1].map .int)), o8, Z (frs [(0, 1), (1, 5), (2, 5), (3, 5), (4, 5), (1, 1)]), o10, none]) = .nx ([some x, some p, I 5, Z (fr (2, 5)), o4, o5, o6, Z (nums [1, 2, 2, 1]), o8, Z (frs [(0, 1), (1, 5), (2, 5), (3, 5), (4, 5), (1, 1)]), Z (.bl false), none]) := by kernel_rfl
theorem D5_25 (x p : S) (o4 o6 o7 o8 o9 o10 : Option S) : segD ([some x, some p, I 5, Z (fr (2, 5)), o4, Z (frs [(0, 1), (64, 589), (160, 589), (274, 589), (400, 589), (1, 1)]), o6, o7, o8, o9, o10, none]) = .rt (.fz (.bl true)) ([some x, some p, I 5, Z (fr (2, 5)), o4, Z (frs [(0, 1), (64, 589), (160, 589), (274, 589), (400, 589), (1, 1)]), o6, o7, o8, o9, o10, none]) := by kernel_rfl
theorem A5_34 (x p : S) : sSeq segA segB ([some x, some p, I 5, Z (fr (3, 4)), none, none, none, none, none, none, none, none]) = .nx ([some x, some p, I 5, Z (fr (3, 4)), Z (nums [1, 1, 1, 1]), Z (frs [(0, 1), (81, 121), (108, 121), (117, 121), (120, 121), (1, 1)]), Z (.lst ([[1, 1, 1, 1], [1, 1, 2, 1], [1, 2, 1, 1], [1, 2, 2, 1]].map nums)), Z (nums [1, 2, 2, 1]), none, Z (frs [(0, 1), (135, 247), (180, 247), (219, 247), (240, 247), (1, 1)]), none, none]) := by kernel_rfl
theorem L5_34 (x p : S) (o4 o6 o7 o8 o9 o10 : Option S) : t9 ([some x, some p, I 5, Z (fr (3, 4)), o4, Z (frs [(0, 1), (81, 121), (108, 121), (117, 121), (120, 121), (1, 1)]), o6, o7, o8, o9, o10, none]) = .ok (.lst [frs [(0, 1), (81, 121), (108, 121), (117, 121), (120, 121), (1, 1)], frs [(0, 1), (1, 5), (2, 5), (3, 5), (4, 5), (1, 1)]], [some x, some p, I 5, Z (fr (3, 4)), o4, Z (frs [(0, 1), (81, 121), (108, 121), (117, 121), (120, 121), (1, 1)]), o6, o7, o8, o9, o10, none]) := by kernel_rfl
theorem C5_34_0_0 (x p : S) (o4 o5 o6 o8 o10 : Option S) : segC ([some x, some p, I 5, Z (fr (3, 4)), o4, o5, o6, some (.lst ([1, 1, 1, 1].map .int)), o8, Z (frs [(0, 1), (81, 121), (108, 121), (117, 121), (120, 121), (1, 1)]), o10, none]) = .nx ([some x, some p, I 5, Z (fr (3, 4)), o4, o5, o6, Z (nums [1, 1, 1, 1]), o8, Z (frs [(0, 1), (81, 121), (108, 121), (117, 121), (120, 121), (1, 1)]), Z (.bl true), none]) := by kernel_rfl
theorem C5_34_0_1 (x p : S) (o4 o5 o6 o8 o10 : Option S) : segC ([some x, some p, I 5, Z (fr (3, 4)), o4, o5, o6, some (.lst ([1, 1, 1, 1].map .int)), o8, Z (frs [(0, 1), (1, 5), (2, 5), (3, 5), (4, 5), (1, 1)]), o10, none]) = .nx ([some x, some p, I 5, Z (fr (3, 4)), o4, o5, o6, Z (nums [1, 1, 1, 1]), o8, Z (frs [(0, 1), (1, 5), (2, 5), (3, 5), (4, 5), (1, 1)]), Z (.bl false), none]) := by kernel_rfl
theorem C5_34_1_0 (x p : S) (o4 o5 o6 o8 o10 : Option S) : segC ([some x, some p, I 5, Z (fr (3, 4)), o4, o5, o6, some (.lst ([1, 1, 2, 1].map .int)), o8, Z (frs [(0, 1), (81, 121), (108, 121), (117, 121), (120, 121), (1, 1)]), o10, none]) = .nx ([some x, some p, I 5, Z (fr (3, 4)), o4, o5, o6, Z (nums [1, 1, 2, 1]), o8, Z (frs [(0, 1), (81, 121), (108, 121), (117, 121), (120, 121), (1, 1)]), Z (.bl false), none]) := by kernel_rfl
theorem C5_34_1_1 (x p : S) (o4 o5 o6 o8 o10 : Option S) : segC ([some x, some p, I 5, Z (fr (3, 4)), o4, o5, o6, some (.lst ([1, 1, 2, 1].map .int)), o8, Z (frs [(0, 1), (1, 5), (2, 5), (3, 5), (4, 5), (1, 1)]), o10, none]) = .nx ([some x, some p, I 5, Z (fr (3, 4)), o4, o5, o6, Z (nums [1, 1, 2, 1]), o8, Z (frs [(0, 1), (1, 5), (2, 5), (3, 5), (4, 5), (1, 1)]), Z (.bl false), none]) := by kernel_rfl
theorem C5_34_2_0 (x p : S) (o4 o5 o6 o8 o10 : Option S) : segC ([some x, some p, I 5, Z (fr (3, 4)), o4, o5, o6, some (.lst ([1, 2, 1, 1].map .int)), o8, Z (frs [(0, 1), (81, 121), (108, 121), (117, 121), (120, 121), (1, 1)]), o10, none]) = .nx ([some x, some p, I 5, Z (fr (3, 4)), o4, o5, o6, Z (nums [1, 2, 1, 1]), o8, Z (frs [(0, 1), (81, 121), (108, 121), (117, 121), (120, 121), (1, 1)]), Z (.bl false), none]) := by kernel_rfl
theorem C5_34_2_1 (x p : S) (o4 o5 o6 o8 o10 : Option S) : segC ([some x, some p, I 5, Z (fr (3, 4)), o4, o5, o6, some (.lst ([1, 2, 1, 1].map .int)), o8, Z (frs [(0, 1), (1, 5), (2, 5), (3, 5), (4, 5), (1, 1)]), o10, none]) = .nx ([some x, some p, I 5, Z (fr (3, 4)), o4, o5, o6, Z (nums [1, 2, 1, 1]), o8, Z (frs [(0, 1), (1, 5), (2, 5), (3, 5), (4, 5), (1, 1)]), Z (.bl false), none]) := by kernel_rfl
theorem C5_34_3_0 (x p : S) (o4 o5 o6 o8 o10 : Option S) : segC ([some x, some p, I 5, Z (fr (3, 4)), o4, o5, o6, some (.lst ([1, 2, 2, 1].map .int)), o8, Z (frs [(0, 1), (81, 121), (108, 121), (117, 121), (120, 121), (1, 1)]), o10, none]) = .nx ([some x, some p, I 5, Z (fr (3, 4)), o4, o5, o6, Z (nums [1, 2, 2, 1]), o8, Z (frs [(0, 1), (81, 121), (108, 121), (117, 121), (120, 121), (1, 1)]), Z (.bl false), none]) := by kernel_rfl
theorem C5_34_3_1 (x p : S) (o4 o5 o6 o8 o10 : Option S) : segC ([some x, some p, I 5, Z (fr (3, 4)), o4, o5, o6, some (.lst ([1, 2, 2, 1].map .int)), o8, Z (frs [(0, 1), (1, 5), (2, 5), (3, 5), (4, 5), (1, 1)]), o10, none]) = .nx ([some x, some p, I 5, Z (fr (3, 4)), o4, o5, o6, Z (nums [1, 2, 2, 1]), o8, Z (frs [(0, 1), (1, 5), (2, 5), (3, 5), (4, 5), (1, 1)]), Z (.bl false), none]) := by kernel_rfl
theorem D5_34 (x p : S) (o4 o6 o7 o8 o9 o10 : Option S) : segD ([some x, some p, I 5, Z (fr (3, 4)), o4, Z (frs [(0, 1), (81, 121), (108, 121), (117, 121), (120, 121), (1, 1)]), o6, o7, o8, o9, o10, none]) = .rt (.fz (.bl true)) ([some x, some p, I 5, Z (fr (3, 4)), o4, Z (frs [(0, 1), (81, 121), (108, 121), (117, 121), (120, 121), (1, 1)]), o6, o7, o8, o9, o10, none]) := by kernel_rfl
theorem A6_12 (x p : S) : segA ([some x, some p, I 6, Z (fr (1, 2)), none, none, none, none, none, none, none, none]) = .nx ([some x, some p, I 6, Z (fr (1, 2)), Z (nums [1, 2, 3, 2, 1]), Z (frs [(0, 1), (1, 6), (1, 3), (1, 2), (2, 3), (5, 6), (1, 1)]), none, none, none, none, none, none]) := by kernel_rfl
theorem B6_12_0 (x p : S) (o6 o9 : Option S) : l8b ([some x, some p, I 6, Z (fr (1, 2)), Z (nums [1, 2, 3, 2, 1]), Z (frs [(0, 1), (1, 6), (1, 3), (1, 2), (2, 3), (5, 6), (1, 1)]), o6, Z (nums [1, 1, 1, 1, 1]), none, o9, none, none]) = .nx ([some x, some p, I 6, Z (fr (1, 2)), Z (nums [1, 2, 3, 2, 1]), Z (frs [(0, 1), (1, 6), (1, 3), (1, 2), (2, 3), (5, 6), (1, 1)]), o6, Z (nums [1, 1, 1, 1, 1]), none, Z (frs [(0, 1), (1, 6), (1, 3), (1, 2), (2, 3), (5, 6), (1, 1)]), none, none]) := by kernel_rfl
theorem B6_12_1 (x p : S) (o6 o9 : Option S) : l8b ([some x, some p, I 6, Z (fr (1, 2)), Z (nums [1, 2, 3, 2, 1]), Z (frs [(0, 1), (1, 6), (1, 3), (1, 2), (2, 3), (5, 6), (1, 1)]), o6, Z (nums [1, 1, 1, 2, 1]), none, o9, none, none]) = .nx ([some x, some p, I 6, Z (fr (1, 2)), Z (nums [1, 2, 3, 2, 1]), Z (frs [(0, 1), (1, 6), (1, 3), (1, 2), (2, 3), (5, 6), (1, 1)]), o6, Z (nums [1, 1, 1, 2, 1]), none, Z (frs [(0, 1), (1, 6), (1, 3), (1, 2), (2, 3), (5, 6), (1, 1)]), none, none]) := by kernel_rfl
theorem B6_12_2 (x p : S) (o6 o9 : Option S) : l8b ([some x, some p, I 6, Z (fr (1, 2)), Z (nums [1, 2, 3, 2, 1]), Z (frs [(0, 1), (1, 6), (1, 3), (1, 2), (2, 3), (5, 6), (1, 1)]), o6, Z (nums [1, 1, 2, 1, 1]), none, o9, none, none]) = .nx ([some x, some p, I 6, Z (fr (1, 2)), Z (nums [1, 2, 3, 2, 1]), Z (frs [(0, 1), (1, 6), (1, 3), (1, 2), (2, 3), (5, 6), (1, 1)]), o6, Z (nums [1, 1, 2, 1, 1]), none, Z (frs [(0, 1), (1, 6), (1, 3), (1, 2), (2, 3), (5, 6), (1, 1)]), none, none]) := by kernel_rfl
theorem B6_12_3 (x p : S) (o6 o9 : Option S) : l8b ([some x, some p, I 6, Z (fr (1, 2)), Z (nums [1, 2, 3, 2, 1]), Z (frs [(0, 1), (1, 6), (1, 3), (1, 2), (2, 3), (5, 6), (1, 1)]), o6, Z (nums [1, 1, 2, 2, 1]), none, o9, none, none]) = .nx ([some x, some p, I 6, Z (fr (1, 2)), Z (nums [1, 2, 3, 2, 1]), Z (frs [(0, 1), (1, 6), (1, 3), (1, 2), (2, 3), (5, 6), (1, 1)]), o6, Z (nums [1, 1, 2, 2, 1]), none, Z (frs [(0, 1), (1, 6), (1, 3), (1, 2), (2, 3), (5, 6), (1, 1)]), none, none]) := by kernel_rfl
theorem B6_12_4 (x p : S) (o6 o9 : Option S) : l8b ([some x, some p, I 6, Z (fr (1, 2)), Z (nums [1, 2, 3, 2, 1]), Z (frs [(0, 1), (1, 6), (1, 3), (1, 2), (2, 3), (5, 6), (1, 1)]), o6, Z (nums [1, 1, 3, 1, 1]), none, o9, none, none]) = .nx ([some x, some p, I 6, Z (fr (1, 2)), Z (nums [1, 2, 3, 2, 1]), Z (frs [(0, 1), (1, 6), (1, 3), (1, 2), (2, 3), (5, 6), (1, 1)]), o6, Z (nums [1, 1, 3, 1, 1]), none, Z (frs [(0, 1), (1, 6), (1, 3), (1, 2), (2, 3), (5, 6), (1, 1)]), none, none]) := by kernel_rfl
theorem B6_12_5 (x p : S) (o6 o9 : Option S) : l8b ([some x, some p, I 6, Z (fr (1, 2)), Z (nums [1, 2, 3, 2, 1]), Z (frs [(0, 1), (1, 6), (1, 3), (1, 2), (2, 3), (5, 6), (1, 1)]), o6, Z (nums [1, 1, 3, 2, 1]), none, o9, none, none]) = .nx ([some x, some p, I 6, Z (fr (1, 2)), Z (nums [1, 2, 3, 2, 1]), Z (frs [(0, 1), (1, 6), (1, 3), (1, 2), (2, 3), (5, 6), (1, 1)]), o6, Z (nums [1, 1, 3, 2, 1]), none, Z (frs [(0, 1), (1, 6), (1, 3), (1, 2), (2, 3), (5, 6), (1, 1)]), none, none]) := by kernel_rfl
theorem B6_12_6 (x p : S) (o6 o9 : Option S) : l8b ([some x, some p, I 6, Z (fr (1, 2)), Z (nums [1, 2, 3, 2, 1]), Z (frs [(0, 1), (1, 6), (1, 3), (1, 2), (2, 3), (5, 6), (1, 1)]), o6, Z (nums [1, 2, 1, 1, 1]), none, o9, none, none]) = .nx ([some x, some p, I 6, Z (fr (1, 2)), Z (nums [1, 2, 3, 2, 1]), Z (frs [(0, 1), (1, 6), (1, 3), (1, 2), (2, 3), (5, 6), (1, 1)]), o6, Z (nums [1, 2, 1, 1, 1]), none, Z (frs [(0, 1), (1, 6), (1, 3), (1, 2), (2, 3), (5, 6), (1, 1)]), none, none]) := by kernel_rfl
theorem B6_12_7 (x p : S) (o6 o9 : Option S) : l8b ([some x, some p, I 6, Z (fr (1, 2)), Z (nums [1, 2, 3, 2, 1]), Z (frs [(0, 1), (1, 6), (1, 3), (1, 2), (2, 3), (5, 6), (1, 1)]), o6, Z (nums [1, 2, 1, 2, 1]), none, o9, none, none]) = .nx ([some x, some p, I 6, Z (fr (1, 2)), Z (nums [1, 2, 3, 2, 1]), Z (frs [(0, 1), (1, 6), (1, 3), (1, 2), (2, 3), (5, 6), (1, 1)]), o6, Z (nums [1, 2, 1, 2, 1]), none, Z (frs [(0, 1), (1, 6), (1, 3), (1, 2), (2, 3), (5, 6), (1, 1)]), none, none]) := by kernel_rfl
theorem B6_12_8 (x p : S) (o6 o9 : Option S) : l8b ([some x, some p, I 6, Z (fr (1, 2)), Z (nums [1, 2, 3, 2, 1]), Z (frs [(0, 1), (1, 6), (1, 3), (1, 2), (2, 3), (5, 6), (1, 1)]), o6, Z (nums [1, 2, 2, 1, 1]), none, o9, none, none]) = .nx ([some x, some p, I 6, Z (fr (1, 2)), Z (nums [1, 2, 3, 2, 1]), Z (frs [(0, 1), (1, 6), (1, 3), (1, 2), (2, 3), (5, 6), (1, 1)]), o6, Z (nums [1, 2, 2, 1, 1]), none, Z (frs [(0, 1), (1, 6), (1, 3), (1, 2), (2, 3), (5, 6), (1, 1)]), none, none]) := by kernel_rfl
theorem B6_12_9 (x p : S) (o6 o9 : Option S) : l8b ([some x, some p, I 6, Z (fr (1, 2)), Z (nums [1, 2, 3, 2, 1]), Z (frs [(0, 1), (1, 6), (1, 3), (1, 2), (2, 3), (5, 6), (1, 1)]), o6, Z (nums [1, 2, 2, 2, 1]), none, o9, none, none]) = .nx ([some x, some p, I 6, Z (fr (1, 2)), Z (nums [1, 2, 3, 2, 1]), Z (frs [(0, 1), (1, 6), (1, 3), (1, 2), (2, 3), (5, 6), (1, 1)]), o6, Z (nums [1, 2, 2, 2, 1]), none, Z (frs [(0, 1), (1, 6), (1, 3), (1, 2), (2, 3), (5, 6), (1, 1)]), none, none]) := by kernel_rfl
theorem B6_12_10 (x p : S) (o6 o9 : Option S) : l8b ([some x, some p, I 6, Z (fr (1, 2)), Z (nums [1, 2, 3, 2, 1]), Z (frs [(0, 1), (1, 6), (1, 3), (1, 2), (2, 3), (5, 6), (1, 1)]), o6, Z (nums [1, 2, 3, 1, 1]), none, o9, none, none]) = .nx ([some x, some p, I 6, Z (fr (1, 2)), Z (nums [1, 2, 3, 2, 1]), Z (frs [(0, 1), (1, 6), (1, 3), (1, 2), (2, 3), (5, 6), (1, 1)]), o6, Z (nums [1, 2, 3, 1, 1]), none, Z (frs [(0, 1), (1, 6), (1, 3), (1, 2), (2, 3), (5, 6), (1, 1)]), none, none]) := by kernel_rfl
theorem B6_12_11 (x p : S) (o6 o9 : Option S) : l8b ([some x, some p, I 6, Z (fr (1, 2)), Z (nums [1, 2, 3, 2, 1]), Z (frs [(0, 1), (1, 6), (1, 3), (1, 2), (2, 3), (5, 6), (1, 1)]), o6, Z (nums [1, 2, 3, 2, 1]), none, o9, none, none]) = .nx ([some x, some p, I 6, Z (fr (1, 2)), Z (nums [1, 2, 3, 2, 1]), Z (frs [(0, 1), (1, 6), (1, 3), (1, 2), (2, 3), (5, 6), (1, 1)]), o6, Z (nums [1, 2, 3, 2, 1]), none, Z (frs [(0, 1), (1, 6), (1, 3), (1, 2), (2, 3), (5, 6), (1, 1)]), none, none]) := by kernel_rfl
theorem L6_12 (x p : S) (o4 o6 o7 o8 o9 o10 : Option S) : t9 ([some x, some p, I 6, Z (fr (1, 2)), o4, Z (frs [(0, 1), (1, 6), (1, 3), (1, 2), (2, 3), (5, 6), (1, 1)]), o6, o7, o8, o9, o10, none]) = .ok (.lst [frs [(0, 1), (1, 6), (1, 3), (1, 2), (2, 3), (5, 6), (1, 1)], frs [(0, 1), (1, 6), (1, 3), (1, 2), (2, 3), (5, 6), (1, 1)]], [some x, some p, I 6, Z (fr (1, 2)), o4, Z (frs [(0, 1), (1, 6), (1, 3), (1, 2), (2, 3), (5, 6), (1, 1)]), o6, o7, o8, o9, o10, none]) := by kernel_rfl
theorem C6_12_0_0 (x p : S) (o4 o5 o6 o8 o10 : Option S) : segC ([some x, some p, I 6, Z (fr (1, 2)), o4, o5, o6, some (.lst ([1, 1, 1, 1, 1].map .int)), o8, Z (frs [(0, 1), (1, 6), (1, 3), (1, 2), (2, 3), (5, 6), (1, 1)]), o10, none]) = .nx ([some x, some p, I 6, Z (fr (1, 2)), o4, o5, o6, Z (nums [1, 1, 1, 1, 1]), o8, Z (frs [(0, 1), (1, 6), (1, 3), (1, 2), (2, 3), (5, 6), (1, 1)]), Z (.bl true), none]) := by kernel_rfl
theorem C6_12_0_1 (x p : S) (o4 o5 o6 o8 o10 : Option S) : segC ([some x, some p, I 6, Z (fr (1, 2)), o4, o5, o6, some (.lst ([1, 1, 1, 1, 1].map .int)), o8, Z (frs [(0, 1), (1, 6), (1, 3), (1, 2), (2, 3), (5, 6), (1, 1)]), o10, none]) = .nx ([some x, some p, I 6, Z (fr (1, 2)), o4, o5, o6, Z (nums [1, 1, 1, 1, 1]), o8, Z (frs [(0, 1), (1, 6), (1, 3), (1, 2), (2, 3), (5, 6), (1, 1)]), Z (.bl true), none]) := by kernel_rfl
theorem C6_12_1_0 (x p : S) (o4 o5 o6 o8 o10 : Option S) : segC ([some x, some p, I 6, Z (fr (1, 2)), o4, o5, o6, some (.lst ([1, 1, 1, 2, 1].map .int)), o8, Z (frs [(0, 1), (1, 6), (1, 3), (1, 2), (2, 3), (5, 6), (1, 1)]), o10, none]) = .nx ([some x, some p, I 6, Z (fr (1, 2)), o4, o5, o6, Z (nums [1, 1, 1, 2, 1]), o8, Z (frs [(0, 1), (1, 6), (1, 3), (1, 2), (2, 3), (5, 6), (1, 1)]), Z (.bl true), none]) := by kernel_rfl
theorem C6_12_1_1 (x p : S) (o4 o5 o6 o8 o10 : Option S) : segC ([some x, some p, I 6, Z (fr (1, 2)), o4, o5, o6, some (.lst ([1, 1, 1, 2, 1].map .int)), o8, Z (frs [(0, 1), (1, 6), (1, 3), (1, 2), (2, 3), (5, 6), (1, 1)]), o10, none]) = .nx ([some x, some p, I 6, Z (fr (1, 2)), o4, o5, o6, Z (nums [1, 1, 1, 2, 1]), o8, Z (frs [(0, 1), (1, 6), (1, 3), (1, 2), (2, 3), (5, 6), (1, 1)]), Z (.bl true), none]) := by kernel_rfl
theorem C6_12_2_0 (x p : S) (o4 o5 o6 o8 o10 : Option S) : segC ([some x, some p, I 6, Z (fr (1, 2)), o4, o5, o6, some (.lst ([1, 1, 2, 1, 1].map .int)), o8, Z (frs [(0, 1), (1, 6), (1, 3), (1, 2), (2, 3), (5, 6), (1, 1)]), o10, none]) = .nx ([some x, some p, I 6, Z (fr (1, 2)), o4, o5, o6, Z (nums [1, 1, 2, 1, 1]), o8, Z (frs [(0, 1), (1, 6), (1, 3), (1, 2), (2, 3), (5, 6), (1, 1)]), Z (.bl true), none]) := by kernel_rfl
theorem C6_12_2_1 (x p : S) (o4 o5 o6 o8 o10 : Option S) : segC ([some x, some p, I 6, Z (fr (1, 2)), o4, o5, o6, some (.lst ([1, 1, 2, 1, 1].map .int)), o8, Z (frs [(0, 1), (1, 6), (1, 3), (1, 2), (2, 3), (5, 6), (1, 1)]), o10, none]) = .nx ([some x, some p, I 6, Z (fr (1, 2)), o4, o5, o6, Z (nums [1, 1, 2, 1, 1]), o8, Z (frs [(0, 1), (1, 6), (1, 3), (1, 2), (2, 3), (5, 6), (1, 1)]), Z (.bl true), none]) := by kernel_rfl
theorem C6_12_3_0 (x p : S) (o4 o5 o6 o8 o10 : Option S) : segC ([some x, some p, I 6, Z (fr (1, 2)), o4, o5, o6, some (.lst ([1, 1, 2, 2, 1].map .int)), o8, Z (frs [(0, 1), (1, 6), (1, 3), (1, 2), (2, 3), (5, 6), (1, 1)]), o10, none]) = .nx ([some x, some p, I 6, Z (fr (1, 2)), o4, o5, o6, Z (nums [1, 1, 2, 2, 1]), o8, Z (frs [(0, 1), (1, 6), (1, 3), (1, 2), (2, 3), (5, 6), (1, 1)]), Z (.bl true), none]) := by kernel_rfl
theorem C6_12_3_1 (x p : S) (o4 o5 o6 o8 o10 : Option S) : segC ([some x, some p, I 6, Z (fr (1, 2)), o4, o5, o6, some (.lst ([1, 1, 2, 2, 1].map .int)), o8, Z (frs [(0, 1), (1, 6), (1, 3), (1, 2), (2, 3), (5, 6), (1, 1)]), o10, none]) = .nx ([some x, some p, I 6, Z (fr (1, 2)), o4, o5, o6, Z (nums [1, 1, 2, 2, 1]), o8, Z (frs [(0, 1), (1, 6), (1, 3), (1, 2), (2, 3), (5, 6), (1, 1)]), Z (.bl true), none]) := by kernel_rfl
theorem C6_12_4_0 (x p : S) (o4 o5 o6 o8 o10 : Option S) : segC ([some x, some p, I 6, Z (fr (1, 2)), o4, o5, o6, some (.lst ([1, 1, 3, 1, 1].map .int)), o8, Z (frs [(0, 1), (1, 6), (1, 3), (1, 2), (2, 3), (5, 6), (1, 1)]), o10, none]) = .nx ([some x, some p, I 6, Z (fr (1, 2)), o4, o5, o6, Z (nums [1, 1, 3, 1, 1]), o8, Z (frs [(0, 1), (1, 6), (1, 3), (1, 2), (2, 3), (5, 6), (1, 1)]), Z (.bl true), none]) := by kernel_rfl
theorem C6_12_4_1 (x p : S) (o4 o5 o6 o8 o10 : Option S) : segC ([some x, some p, I 6, Z (fr (1, 2)), o4, o5, o6, some (.lst ([1, 1, 3, 1, 1].map .int)), o8, Z (frs [(0, 1), (1, 6), (1, 3), (1, 2), (2, 3), (5, 6), (1, 1)]), o10, none]) = .nx ([some x, some p, I 6, Z (fr (1, 2)), o4, o5, o6, Z (nums [1, 1, 3, 1, 1]), o8, Z (frs [(0, 1), (1, 6), (1, 3), (1, 2), (2, 3), (5, 6), (1, 1)]), Z (.bl true), none]) := by kernel_rfl
theorem C6_12_5_0 (x p : S) (o4 o5 o6 o8 o10 : Option S) : segC ([some x, some p, I 6, Z (fr (1, 2)), o4, o5, o6, some (.lst ([1, 1, 3, 2, 1].map .int)), o8, Z (frs [(0, 1), (1, 6), (1, 3), (1, 2), (2, 3), (5, 6), (1, 1)]), o10, none]) = .nx ([some x, some p, I 6, Z (fr (1, 2)), o4, o5, o6, Z (nums [1, 1, 3, 2, 1]), o8, Z (frs [(0, 1), (1, 6), (1, 3), (1, 2), (2, 3), (5, 6), (1, 1)]), Z (.bl true), none]) := by kernel_rfl
theorem C6_12_5_1 (x p : S) (o4 o5 o6 o8 o10 : Option S) : segC ([some x, some p, I 6, Z (fr (1, 2)), o4, o5, o6, some (.lst ([1, 1, 3, 2, 1].map .int)), o8, Z (frs [(0, 1), (1, 6), (1, 3), (1, 2), (2, 3), (5, 6), (1, 1)]), o10, none]) = .nx ([some x, some p, I 6, Z (fr (1, 2)), o4, o5, o6, Z (nums [1, 1, 3, 2, 1]), o8, Z (frs [(0, 1), (1, 6), (1, 3), (1, 2), (2, 3), (5, 6), (1, 1)]), Z (.bl true), none]) := by kernel_rfl
theorem C6_12_6_0 (x p : S) (o4 o5 o6 o8 o10 : Option S) : segC ([some x, some p, I 6, Z (fr (1, 2)), o4, o5, o6, some (.lst ([1, 2, 1, 1, 1].map .int)), o8, Z (frs [(0, 1), (1, 6), (1, 3), (1, 2), (2, 3), (5, 6), (1, 1)]), o10, none]) = .nx ([some x, some p, I 6, Z (fr (1, 2)), o4, o5, o6, Z (nums [1, 2, 1, 1, 1]), o8, Z (frs [(0, 1), (1, 6), (1, 3), (1, 2), (2, 3), (5, 6), (1, 1)]), Z (.bl true), none]) := by kernel_rfl
theorem C6_12_6_1 (x p : S) (o4 o5 o6 o8 o10 : Option S) : segC ([some x, some p, I 6, Z (fr (1, 2)), o4, o5, o6, some (.lst ([1, 2, 1, 1, 1].map .int)), o8, Z (frs [(0, 1), (1, 6), (1, 3), (1, 2), (2, 3), (5, 6), (1, 1)]), o10, none]) = .nx ([some x, some p, I 6, Z (fr (1, 2)), o4, o5, o6, Z (nums [1, 2, 1, 1, 1]), o8, Z (frs [(0, 1), (1, 6), (1, 3), (1, 2), (2, 3), (5, 6), (1, 1)]), Z (.bl true), none]) := by kernel_rfl
theorem C6_12_7_0 (x p : S) (o4 o5 o6 o8 o10 : Option S) : segC ([some x, some p, I 6, Z (fr (1, 2)), o4, o5, o6, some (.lst ([1, 2, 1, 2, 1].map .int)), o8, Z (frs [(0, 1), (1, 6), (1, 3), (1, 2), (2, 3), (5, 6), (1, 1)]), o10, none]) = .nx ([some x, some p, I 6, Z (fr (1, 2)), o4, o5, o6, Z (nums [1, 2, 1, 2, 1]), o8, Z (frs [(0, 1), (1, 6), (1, 3), (1, 2), (2, 3), (5, 6), (1, 1)]), Z (.bl true), none]) := by kernel_rfl
theorem C6_12_7_1 (x p : S) (o4 o5 o6 o8 o10 : Option S) : segC ([some x, some p, I 6, Z (fr (1, 2)), o4, o5, o6, some (.lst ([1, 2, 1, 2, 1].map .int)), o8, Z (frs [(0, 1), (1, 6), (1, 3), (1, 2), (2, 3), (5, 6), (1, 1)]), o10, none]) = .nx ([some x, some p, I 6, Z (fr (1, 2)), o4, o5, o6, Z (nums [1, 2, 1, 2, 1]), o8, Z (frs [(0, 1), (1, 6), (1, 3), (1, 2), (2, 3), (5, 6), (1, 1)]), Z (.bl true), none]) := by kernel_rfl
theorem C6_12_8_0 (x p : S) (o4 o5 o6 o8 o10 : Option S) : segC ([some x, some p, I 6, Z (fr (1, 2)), o4, o5, o6, some (.lst ([1, 2, 2, 1, 1].map .int)), o8, Z (frs [(0, 1), (1, 6), (1, 3), (1, 2), (2, 3), (5, 6), (1, 1)]), o10, none]) = .nx ([some x, some p, I 6, Z (fr (1, 2)), o4, o5, o6, Z (nums [1, 2, 2, 1, 1]), o8, Z (frs [(0, 1), (1, 6), (1, 3), (1, 2), (2, 3), (5, 6), (1, 1)]), Z (.bl true), none]) := by kernel_rfl
theorem C6_12_8_1 (x p : S) (o4 o5 o6 o8 o10 : Option S) : segC ([some x, some p, I 6, Z (fr (1, 2)), o4, o5, o6, some (.lst ([1, 2, 2, 1, 1].map .int)), o8, Z (frs [(0, 1), (1, 6), (1, 3), (1, 2), (2, 3), (5, 6), (1, 1)]), o10, none]) = .nx ([some x, some p, I 6, Z (fr (1, 2)), o4, o5, o6, Z (nums [1, 2, 2, 1, 1]), o8, Z (frs [(0, 1), (1, 6), (1, 3), (1, 2), (2, 3), (5, 6), (1, 1)]), Z (.bl true), none]) := by kernel_rfl
theorem C6_12_9_0 (x p : S) (o4 o5 o6 o8 o10 : Option S) : segC ([some x, some p, I 6, Z (fr (1, 2)), o4, o5, o6, some (.lst ([1, 2, 2, 2, 1].map .int)), o8, Z (frs [(0, 1), (1, 6), (1, 3), (1, 2), (2, 3), (5, 6), (1, 1)]), o10, none]) = .nx ([some x, some p, I 6, Z (fr (1, 2)), o4, o5, o6, Z (nums [1, 2, 2, 2, 1]), o8, Z (frs [(0, 1), (1, 6), (1, 3), (1, 2), (2, 3), (5, 6), (1, 1)]), Z (.bl true), none]) := by kernel_rfl
theorem C6_12_9_1 (x p : S) (o4 o5 o6 o8 o10 : Option S) : segC ([some x, some p, I 6, Z (fr (1, 2)), o4, o5, o6, some (.lst ([1, 2, 2, 2, 1].map .int)), o8, Z (frs [(0, 1), (1, 6), (1, 3), (1, 2), (2, 3), (5, 6), (1, 1)]), o10, none]) = .nx ([some x, some p, I 6, Z (fr (1, 2)), o4, o5, o6, Z (nums [1, 2, 2, 2, 1]), o8, Z (frs [(0, 1), (1, 6), (1, 3), (1, 2), (2, 3), (5, 6), (1, 1)]), Z (.bl true), none]) := by kernel_rfl
theorem C6_12_10_0 (x p : S) (o4 o5 o6 o8 o10 : Option S) : segC ([some x, some p, I 6, Z (fr (1, 2)), o4, o5, o6, some (.lst ([1, 2, 3, 1, 1].map .int)), o8, Z (frs [(0, 1), (1, 6), (1, 3), (1, 2), (2, 3), (5, 6), (1, 1)]), o10, none]) = .nx ([some x, some p, I 6, Z (fr (1, 2)), o4, o5, o6, Z (nums [1, 2, 3, 1, 1]), o8, Z (frs [(0, 1), (1, 6), (1, 3), (1, 2), (2, 3), (5, 6), (1, 1)]), Z (.bl true), none]) := by kernel_rfl
theorem C6_12_10_1 (x p : S) (o4 o5 o6 o8 o10 : Option S) : segC ([some x, some p, I 6, Z (fr (1, 2)), o4, o5, o6, some (.lst ([1, 2, 3, 1, 1].map .int)), o8, Z (frs [(0, 1), (1, 6), (1, 3), (1, 2), (2, 3), (5, 6), (1, 1)]), o10, none]) = .nx ([some x, some p, I 6, Z (fr (1, 2)), o4, o5, o6, Z (nums [1, 2, 3, 1, 1]), o8, Z (frs [(0, 1), (1, 6), (1, 3), (1, 2), (2, 3), (5, 6), (1, 1)]), Z (.bl true), none]) := by kernel_rfl
theorem C6_12_11_0 (x p : S) (o4 o5 o6 o8 o10 : Option S) : segC ([some x, some p, I 6, Z (fr (1, 2)), o4, o5, o6, some (.lst ([1, 2, 3, 2, 1].map .int)), o8, Z (frs [(0, 1), (1, 6), (1, 3), (1, 2), (2, 3), (5, 6), (1, 1)]), o10, none]) = .nx ([some x, some p, I 6, Z (fr (1, 2)), o4, o5, o6, Z (nums [1, 2, 3, 2, 1]), o8, Z (frs [(0, 1), (1, 6), (1, 3), (1, 2), (2, 3), (5, 6), (1, 1)]), Z (.bl true), none]) := by kernel_rfl
theorem C6_12_11_1 (x p : S) (o4 o5 o6 o8 o10 : Option S) : segC ([some x, some p, I 6, Z (fr (1, 2)), o4, o5, o6, some (.lst ([1, 2, 3, 2, 1].map .int)), o8, Z (frs [(0, 1), (1, 6), (1, 3), (1, 2), (2, 3), (5, 6), (1, 1)]), o10, none]) = .nx ([some x, some p, I 6, Z (fr (1, 2)), o4, o5, o6, Z (nums [1, 2, 3, 2, 1]), o8, Z (frs [(0, 1), (1, 6), (1, 3), (1, 2), (2, 3), (5, 6), (1, 1)]), Z (.bl true), none]) := by kernel_rfl
theorem D6_12 (x p : S) (o4 o6 o7 o8 o9 o10 : Option S) : segD ([some x, some p, I 6, Z (fr (1, 2)), o4, Z (frs [(0, 1), (1, 6), (1, 3), (1, 2), (2, 3), (5, 6), (1, 1)]), o6, o7, o8, o9, o10, none]) = .rt (.fz (.bl true)) ([some x, some p, I 6, Z (fr (1, 2)), o4, Z (frs [(0, 1), (1, 6), (1, 3), (1, 2), (2, 3), (5, 6), (1, 1)]), o6, o7, o8, o9, o10, none]) := by kernel_rfl
theorem A6_13 (x p : S) : segA ([some x, some p, I 6, Z (fr (1, 3)), none, none, none, none, none, none, none, none]) = .nx ([some x, some p, I 6, Z (fr (1, 3)), Z (nums [1, 2, 3, 2, 1]), Z (frs [(0, 1), (1, 21), (1, 7), (1, 3), (3, 7), (13, 21), (1, 1)]), none, none, none, none, none, none]) := by kernel_rfl
theorem B6_13_0 (x p : S) (o6 o9 : Option S) : l8b ([some x, some p, I 6, Z (fr (1, 3)), Z (nums [1, 2, 3, 2, 1]), Z (frs [(0, 1), (1, 21), (1, 7), (1, 3), (3, 7), (13, 21), (1, 1)]), o6, Z (nums [1, 1, 1, 1, 1]), none, o9, none, none]) = .nx ([some x, some p, I 6, Z (fr (1, 3)), Z (nums [1, 2, 3, 2, 1]), Z (frs [(0, 1), (1, 21), (1, 7), (1, 3), (3, 7), (13, 21), (1, 1)]), o6, Z (nums [1, 1, 1, 1, 1]), none, Z (frs [(0, 1), (1, 63), (1, 21), (1, 9), (5, 21), (31, 63), (1, 1)]), none, none]) := by kernel_rfl
theorem B6_13_1 (x p : S) (o6 o9 : Option S) : l8b ([some x, some p, I 6, Z (fr (1, 3)), Z (nums [1, 2, 3, 2, 1]), Z (frs [(0, 1), (1, 21), (1, 7), (1, 3), (3, 7), (13, 21), (1, 1)]), o6, Z (nums [1, 1, 1, 2, 1]), none, o9, none, none]) = .nx ([some x, some p, I 6, Z (fr (1, 3)), Z (nums [1, 2, 3, 2, 1]), Z (frs [(0, 1), (1, 21), (1, 7), (1, 3), (3, 7), (13, 21), (1, 1)]), o6, Z (nums [1, 1, 1, 2, 1]), none, Z (frs [(0, 1), (1, 39), (1, 13), (7, 39), (5, 13), (23, 39), (1, 1)]), none, none]) := by kernel_rfl
theorem B6_13_2 (x p : S) (o6 o9 : Option S) : l8b ([some x, some p, I 6, Z (fr (1, 3)), Z (nums [1, 2, 3, 2, 1]), Z (frs [(0, 1), (1, 21), (1, 7), (1, 3), (3, 7), (13, 21), (1, 1)]), o6, Z (nums [1, 1, 2, 1, 1]), none, o9, none, none]) = .nx ([some x, some p, I 6, Z (fr (1, 3)), Z (nums [1, 2, 3, 2, 1]), Z (frs [(0, 1), (1, 21), (1, 7), (1, 3), (3, 7), (13, 21), (1, 1)]), o6, Z (nums [1, 1, 2, 1, 1]), none, Z (frs [(0, 1), (1, 35), (3, 35), (1, 5), (11, 35), (19, 35), (1, 1)]), none, none]) := by kernel_rfl
theorem B6_13_3 (x p : S) (o6 o9 : Option S) : l8b ([some x, some p, I 6, Z (fr (1, 3)), Z (nums [1, 2, 3, 2, 1]), Z (frs [(0, 1), (1, 21), (1, 7), (1, 3), (3, 7), (13, 21), (1, 1)]), o6, Z (nums [1, 1, 2, 2, 1]), none, o9, none, none]) = .nx ([some x, some p, I 6, Z (fr (1, 3)), Z (nums [1, 2, 3, 2, 1]), Z (frs [(0, 1), (1, 21), (1, 7), (1, 3), (3, 7), (13, 21), (1, 1)]), o6, Z (nums [1, 1, 2, 2, 1]), none, Z (frs [(0, 1), (5, 159), (5, 53), (35, 159), (21, 53), (95, 159), (1, 1)]), none, none]) := by kernel_rfl
theorem B6_13_4 (x p : S) (o6 o9 : Option S) : l8b ([some x, some p, I 6, Z (fr (1, 3)), Z (nums [1, 2, 3, 2, 1]), Z (frs [(0, 1), (1, 21), (1, 7), (1, 3), (3, 7), (13, 21), (1, 1)]), o6, Z (nums [1, 1, 3, 1, 1]), none, o9, none, none]) = .nx ([some x, some p, I 6, Z (fr (1, 3)), Z (nums [1, 2, 3, 2, 1]), Z (frs [(0, 1), (1, 21), (1, 7), (1, 3), (3, 7), (13, 21), (1, 1)]), o6, Z (nums [1, 1, 3, 1, 1]), none, Z (frs [(0, 1), (1, 21), (1, 7), (1, 3), (3, 7), (13, 21), (1, 1)]), none, none]) := by kernel_rfl
theorem B6_13_5 (x p : S) (o6 o9 : Option S) : l8b ([some x, some p, I 6, Z (fr (1, 3)), Z (nums [1, 2, 3, 2, 1]), Z (frs [(0, 1), (1, 21), (1, 7), (1, 3), (3, 7), (13, 21), (1, 1)]), o6, Z (nums [1, 1, 3, 2, 1]), none, o9, none, none]) = .nx ([some x, some p, I 6, Z (fr (1, 3)), Z (nums [1, 2, 3, 2, 1]), Z (frs [(0, 1), (1, 21), (1, 7), (1, 3), (3, 7), (13, 21), (1, 1)]), o6, Z (nums [1, 1, 3, 2, 1]), none, Z (frs [(0, 1), (1, 21), (1, 7), (1, 3), (3, 7), (13, 21), (1, 1)]), none, none]) := by kernel_rfl
theorem B6_13_6 (x p : S) (o6 o9 : Option S) : l8b ([some x, some p, I 6, Z (fr (1, 3)), Z (nums [1, 2, 3, 2, 1]), Z (frs [(0, 1), (1, 21), (1, 7), (1, 3), (3, 7), (13, 21), (1, 1)]), o6, Z (nums [1, 2, 1, 1, 1]), none, o9, none, none]) = .nx ([some x, some p, I 6, Z (fr (1, 3)), Z (nums [1, 2, 3, 2, 1]), Z (frs [(0, 1), (1, 21), (1, 7), (1, 3), (3, 7), (13, 21), (1, 1)]), o6, Z (nums [1, 2, 1, 1, 1]), none, Z (frs [(0, 1), (1, 33), (1, 11), (5, 33), (3, 11), (17, 33), (1, 1)]), none, none]) := by kernel_rfl
theorem B6_13_7 (x p : S) (o6 o9 : Option S) : l8b ([some x, some p, I 6, Z (fr (1, 3)), Z (nums [1, 2, 3, 2, 1]), Z (frs [(0, 1), (1, 21), (1, 7), (1, 3), (3, 7), (13, 21), (1, 1)]), o6, Z (nums [1, 2, 1, 2, 1]), none, o9, none, none]) = .nx ([some x, some p, I 6, Z (fr (1, 3)), Z (nums [1, 2, 3, 2, 1]), Z (frs [(0, 1), (1, 21), (1, 7), (1, 3), (3, 7), (13, 21), (1, 1)]), o6, Z (nums [1, 2, 1, 2, 1]), none, Z (frs [(0, 1), (1, 21), (1, 7), (5, 21), (3, 7), (13, 21), (1, 1)]), none, none]) := by kernel_rfl
theorem B6_13_8 (x p : S) (o6 o9 : Option S) : l8b ([some x, some p, I 6, Z (fr (1, 3)), Z (nums [1, 2, 3, 2, 1]), Z (frs [(0, 1), (1, 21), (1, 7), (1, 3), (3, 7), (13, 21), (1, 1)]), o6, Z (nums [1, 2, 2, 1, 1]), none, o9, none, none]) = .nx ([some x, some p, I 6, Z (fr (1, 3)), Z (nums [1, 2, 3, 2, 1]), Z (frs [(0, 1), (1, 21), (1, 7), (1, 3), (3, 7), (13, 21), (1, 1)]), o6, Z (nums [1, 2, 2, 1, 1]), none, Z (frs [(0, 1), (5, 141), (5, 47), (29, 141), (15, 47), (77, 141), (1, 1)]), none, none]) := by kernel_rfl
theorem B6_13_9 (x p : S) (o6 o9 : Option S) : l8b ([some x, some p, I 6, Z (fr (1, 3)), Z (nums [1, 2, 3, 2, 1]), Z (frs [(0, 1), (1, 21), (1, 7), (1, 3), (3, 7), (13, 21), (1, 1)]), o6, Z (nums [1, 2, 2, 2, 1]), none, o9, none, none]) = .nx ([some x, some p, I 6, Z (fr (1, 3)), Z (nums [1, 2, 3, 2, 1]), Z (frs [(0, 1), (1, 21), (1, 7), (1, 3), (3, 7), (13, 21), (1, 1)]), o6, Z (nums [1, 2, 2, 2, 1]), none, Z (frs [(0, 1), (1, 21), (1, 7), (5, 21), (3, 7), (13, 21), (1, 1)]), none, none]) := by kernel_rfl
theorem B6_13_10 (x p : S) (o6 o9 : Option S) : l8b ([some x, some p, I 6, Z (fr (1, 3)), Z (nums [1, 2, 3, 2, 1]), Z (frs [(0, 1), (1, 21), (1, 7), (1, 3), (3, 7), (13, 21), (1, 1)]), o6, Z (nums [1, 2, 3, 1, 1]), none, o9, none, none]) = .nx ([some x, some p, I 6, Z (fr (1, 3)), Z (nums [1, 2, 3, 2, 1]), Z (frs [(0, 1), (1, 21), (1, 7), (1, 3), (3, 7), (13, 21), (1, 1)]), o6, Z (nums [1, 2, 3, 1, 1]), none, Z (frs [(0, 1), (1, 21), (1, 7), (1, 3), (3, 7), (13, 21), (1, 1)]), none, none]) := by kernel_rfl
theorem B6_13_11 (x p : S) (o6 o9 : Option S) : l8b ([some x, some p, I 6, Z (fr (1, 3)), Z (nums [1, 2, 3, 2, 1]), Z (frs [(0, 1), (1, 21), (1, 7), (1, 3), (3, 7), (13, 21), (1, 1)]), o6, Z (nums [1, 2, 3, 2, 1]), none, o9, none, none]) = .nx ([some x, some p, I 6, Z (fr (1, 3)), Z (nums [1, 2, 3, 2, 1]), Z (frs [(0, 1), (1, 21), (1, 7), (1, 3), (3, 7), (13, 21), (1, 1)]), o6, Z (nums [1, 2, 3, 2, 1]), none, Z (frs [(0, 1), (1, 21), (1, 7), (1, 3), (3, 7), (13, 21), (1, 1)]), none, none]) := by kernel_rfl
theorem L6_13 (x p : S) (o4 o6 o7 o8 o9 o10 : Option S) : t9 ([some x, some p, I 6, Z (fr (1, 3)), o4, Z (frs [(0, 1), (1, 21), (1, 7), (1, 3), (3, 7), (13, 21), (1, 1)]), o6, o7, o8, o9, o10, none]) = .ok (.lst [frs [(0, 1), (1, 21), (1, 7), (1, 3), (3, 7), (13, 21), (1, 1)], frs [(0, 1), (1, 6), (1, 3), (1, 2), (2, 3), (5, 6), (1, 1)]], [some x, some p, I 6, Z (fr (1, 3)), o4, Z (frs [(0, 1), (1, 21), (1, 7), (1, 3), (3, 7), (13, 21), (1, 1)]), o6, o7, o8, o9, o10, none]) := by kernel_rfl
theorem C6_13_0_0 (x p : S) (o4 o5 o6 o8 o10 : Option S) : segC ([some x, some p, I 6, Z (fr (1, 3)), o4, o5, o6, some (.lst ([1, 1, 1, 1, 1].map .int)), o8, Z (frs [(0, 1), (1, 21), (1, 7), (1, 3), (3, 7), (13, 21), (1, 1)]), o10, none]) = .nx ([some x, some p, I 6, Z (fr (1, 3)), o4, o5, o6, Z (nums [1, 1, 1, 1, 1]), o8, Z (frs [(0, 1), (1, 21), (1, 7), (1, 3), (3, 7), (13, 21), (1, 1)]), Z (.bl false), none]) := by kernel_rfl
theorem C6_13_0_1 (x p : S) (o4 o5 o6 o8 o10 : Option S) : segC ([some x, some p, I 6, Z (fr (1, 3)), o4, o5, o6, some (.lst ([1, 1, 1, 1, 1].map .int)), o8, Z (frs [(0, 1), (1, 6), (1, 3), (1, 2), (2, 3), (5, 6), (1, 1)]), o10, none]) = .nx ([some x, some p, I 6, Z (fr (1, 3)), o4, o5, o6, Z (nums [1, 1, 1, 1, 1]), o8, Z (frs [(0, 1), (1, 6), (1, 3), (1, 2), (2, 3), (5, 6), (1, 1)]), Z (.bl false), none]) := by kernel_rfl
theorem C6_13_1_0 (x p : S) (o4 o5 o6 o8 o10 : Option S) : segC ([some x, some p, I 6, Z (fr (1, 3)), o4, o5, o6, some (.lst ([1, 1, 1, 2, 1].map .int)), o8, Z (frs [(0, 1), (1, 21), (1, 7), (1, 3), (3, 7), (13, 21), (1, 1)]), o10, none]) = .nx ([some x, some p, I 6, Z (fr (1, 3)), o4, o5, o6, Z (nums [1, 1, 1, 2, 1]), o8, Z (frs [(0, 1), (1, 21), (1, 7), (1, 3), (3, 7), (13, 21), (1, 1)]), Z (.bl false), none]) := by kernel_rfl
theorem C6_13_1_1 (x p : S) (o4 o5 o6 o8 o10 : Option S) : segC ([some x, some p, I 6, Z (fr (1, 3)), o4, o5, o6, some (.lst ([1, 1, 1, 2, 1].map .int)), o8, Z (frs [(0, 1), (1, 6), (1, 3), (1, 2), (2, 3), (5, 6), (1, 1)]), o10, none]) = .nx ([some x, some p, I 6, Z (fr (1, 3)), o4, o5, o6, Z (nums [1, 1, 1, 2, 1]), o8, Z (frs [(0, 1), (1, 6), (1, 3), (1, 2), (2, 3), (5, 6), (1, 1)]), Z (.bl false), none]) := by kernel_rfl
theorem C6_13_2_0 (x p : S) (o4 o5 o6 o8 o10 : Option S) : segC ([some x, some p, I 6, Z (fr (1, 3)), o4, o5, o6, some (.lst ([1, 1, 2, 1, 1].map .int)), o8, Z (frs [(0, 1), (1, 21), (1, 7), (1, 3), (3, 7), (13, 21), (1, 1)]), o10, none]) = .nx ([some x, some p, I 6, Z (fr (1, 3)), o4, o5, o6, Z (nums [1, 1, 2, 1, 1]), o8, Z (frs [(0, 1), (1, 21), (1, 7), (1, 3), (3, 7), (13, 21), (1, 1)]), Z (.bl false), none]) := by kernel_rfl
theorem C6_13_2_1 (x p : S) (o4 o5 o6 o8 o10 : Option S) : segC ([some x, some p, I 6, Z (fr (1, 3)), o4, o5, o6, some (.lst ([1, 1, 2, 1, 1].map .int)), o8, Z (frs [(0, 1), (1, 6), (1, 3), (1, 2), (2, 3), (5, 6), (1, 1)]), o10, none]) = .nx ([some x, some p, I 6, Z (fr (1, 3)), o4, o5, o6, Z (nums [1, 1, 2, 1, 1]), o8, Z (frs [(0, 1), (1, 6), (1, 3), (1, 2), (2, 3), (5, 6), (1, 1)]), Z (.bl false), none]) := by kernel_rfl
theorem C6_13_3_0 (x p : S) (o4 o5 o6 o8 o10 : Option S) : segC ([some x, some p, I 6, Z (fr (1, 3)), o4, o5, o6, some (.lst ([1, 1, 2, 2, 1].map .int)), o8, Z (frs [(0, 1), (1, 21), (1, 7), (1, 3), (3, 7), (13, 21), (1, 1)]), o10, none]) = .nx ([some x, some p, I 6, Z (fr (1, 3)), o4, o5, o6, Z (nums [1, 1, 2, 2, 1]), o8, Z (frs [(0, 1), (1, 21), (1, 7), (1, 3), (3, 7), (13, 21), (1, 1)]), Z (.bl false), none]) := by kernel_rfl
theorem C6_13_3_1 (x p : S) (o4 o5 o6 o8 o10 : Option S) : segC ([some x, some p, I 6, Z (fr (1, 3)), o4, o5, o6, some (.lst ([1, 1, 2, 2, 1].map .int)), o8, Z (frs [(0, 1), (1, 6), (1, 3), (1, 2), (2, 3), (5, 6), (1, 1)]), o10, none]) = .nx ([some x, some p, I 6, Z (fr (1, 3)), o4, o5, o6, Z (nums [1, 1, 2, 2, 1]), o8, Z (frs [(0, 1), (1, 6), (1, 3), (1, 2), (2, 3), (5, 6), (1, 1)]), Z (.bl false), none]) := by kernel_rfl
theorem C6_13_4_0 (x p : S) (o4 o5 o6 o8 o10 : Option S) : segC ([some x, some p, I 6, Z (fr (1, 3)), o4, o5, o6, some (.lst ([1, 1, 3, 1, 1].map .int)), o8, Z (frs [(0, 1), (1, 21), (1, 7), (1, 3), (3, 7), (13, 21), (1, 1)]), o10, none]) = .nx ([some x, some p, I 6, Z (fr (1, 3)), o4, o5, o6, Z (nums [1, 1, 3, 1, 1]), o8, Z (frs [(0, 1), (1, 21), (1, 7), (1, 3), (3, 7), (13, 21), (1, 1)]), Z (.bl true), none]) := by kernel_rfl
theorem C6_13_4_1 (x p : S) (o4 o5 o6 o8 o10 : Option S) : segC ([some x, some p, I 6, Z (fr (1, 3)), o4, o5, o6, some (.lst ([1, 1, 3, 1, 1].map .int)), o8, Z (frs [(0, 1), (1, 6), (1, 3), (1, 2), (2, 3), (5, 6), (1, 1)]), o10, none]) = .nx ([some x, some p, I 6, Z (fr (1, 3)), o4, o5, o6, Z (nums [1, 1, 3, 1, 1]), o8, Z (frs [(0, 1), (1, 6), (1, 3), (1, 2), (2, 3), (5, 6), (1, 1)]), Z (.bl false), none]) := by kernel_rfl
theorem C6_13_5_0 (x p : S) (o4 o5 o6 o8 o10 : Option S) : segC ([some x, some p, I 6, Z (fr (1, 3)), o4, o5, o6, some (.lst ([1, 1, 3, 2, 1].map .int)), o8, Z (frs [(0, 1), (1, 21), (1, 7), (1, 3), (3, 7), (13, 21), (1, 1)]), o10, none]) = .nx ([some x, some p, I 6, Z (fr (1, 3)), o4, o5, o6, Z (nums [1, 1, 3, 2, 1]), o8, Z (frs [(0, 1), (1, 21), (1, 7), (1, 3), (3, 7), (13, 21), (1, 1)]), Z (.bl true), none]) := by kernel_rfl
theorem C6_13_5_1 (x p : S) (o4 o5 o6 o8 o10 : Option S) : segC ([some x, some p, I 6, Z (fr (1, 3)), o4, o5, o6, some (.lst ([1, 1, 3, 2, 1].map .int)), o8, Z (frs [(0, 1), (1, 6), (1, 3), (1, 2), (2, 3), (5, 6), (1, 1)]), o10, none]) = .nx ([some x, some p, I 6, Z (fr (1, 3)), o4, o5, o6, Z (nums [1, 1, 3, 2, 1]), o8, Z (frs [(0, 1), (1, 6), (1, 3), (1, 2), (2, 3), (5, 6), (1, 1)]), Z (.bl false), none]) := by kernel_rfl
theorem C6_13_6_0 (x p : S) (o4 o5 o6 o8 o10 : Option S) : segC ([some x, some p, I 6, Z (fr (1, 3)), o4, o5, o6, some (.lst ([1, 2, 1, 1, 1].map .int)), o8, Z (frs [(0, 1), (1, 21), (1, 7), (1, 3), (3, 7), (13, 21), (1, 1)]), o10, none]) = .nx ([some x, some p, I 6, Z (fr (1, 3)), o4, o5, o6, Z (nums [1, 2, 1, 1, 1]), o8, Z (frs [(0, 1), (1, 21), (1, 7), (1, 3), (3, 7), (13, 21), (1, 1)]), Z (.bl false), none]) := by kernel_rfl
theorem C6_13_6_1 (x p : S) (o4 o5 o6 o8 o10 : Option S) : segC ([some x, some p, I 6, Z (fr (1, 3)), o4, o5, o6, some (.lst ([1, 2, 1, 1, 1].map .int)), o8, Z (frs [(0, 1), (1, 6), (1, 3), (1, 2), (2, 3), (5, 6), (1, 1)]), o10, none]) = .nx ([some x, some p, I 6, Z (fr (1, 3)), o4, o5, o6, Z (nums [1, 2, 1, 1, 1]), o8, Z (frs [(0, 1), (1, 6), (1, 3), (1, 2), (2, 3), (5, 6), (1, 1)]), Z (.bl false), none]) := by kernel_rfl
theorem C6_13_7_0 (x p : S) (o4 o5 o6 o8 o10 : Option S) : segC ([some x, some p, I 6, Z (fr (1, 3)), o4, o5, o6, some (.lst ([1, 2, 1, 2, 1].map .int)), o8, Z (frs [(0, 1), (1, 21), (1, 7), (1, 3), (3, 7), (13, 21), (1, 1)]), o10, none]) = .nx ([some x, some p, I 6, Z (fr (1, 3)), o4, o5, o6, Z (nums [1, 2, 1, 2, 1]), o8, Z (frs [(0, 1), (1, 21), (1, 7), (1, 3), (3, 7), (13, 21), (1, 1)]), Z (.bl false), none]) := by kernel_rfl
theorem C6_13_7_1 (x p : S) (o4 o5 o6 o8 o10 : Option S) : segC ([some x, some p, I 6, Z (fr (1, 3)), o4, o5, o6, some (.lst ([1, 2, 1, 2, 1].map .int)), o8, Z (frs [(0, 1), (1, 6), (1, 3), (1, 2), (2, 3), (5, 6), (1, 1)]), o10, none]) = .nx ([some x, some p, I 6, Z (fr (1, 3)), o4, o5, o6, Z (nums [1, 2, 1, 2, 1]), o8, Z (frs [(0, 1), (1, 6), (1, 3), (1, 2), (2, 3), (5, 6), (1, 1)]), Z (.bl false), none]) := by kernel_rfl
theorem C6_13_8_0 (x p : S) (o4 o5 o6 o8 o10 : Option S) : segC ([some x, some p, I 6, Z (fr (1, 3)), o4, o5, o6, some (.lst ([1, 2, 2, 1, 1].map .int)), o8, Z (frs [(0, 1), (1, 21), (1, 7), (1, 3), (3, 7), (13, 21), (1, 1)]), o10, none]) = .nx ([some x, some p, I 6, Z (fr (1, 3)), o4, o5, o6, Z (nums [1, 2, 2, 1, 1]), o8, Z (frs [(0, 1), (1, 21), (1, 7), (1, 3), (3, 7), (13, 21), (1, 1)]), Z (.bl false), none]) := by kernel_rfl
theorem C6_13_8_1 (x p : S) (o4 o5 o6 o8 o10 : Option S) : segC ([some x, some p, I 6, Z (fr (1, 3)), o4, o5, o6, some (.lst ([1, 2, 2, 1, 1].map .int)), o8, Z (frs [(0, 1), (1, 6), (1, 3), (1, 2), (2, 3), (5, 6), (1, 1)]), o10, none]) = .nx ([some x, some p, I 6, Z (fr (1, 3)), o4, o5, o6, Z (nums [1, 2, 2, 1, 1]), o8, Z (frs [(0, 1), (1, 6), (1, 3), (1, 2), (2, 3), (5, 6), (1, 1)]), Z (.bl false), none]) := by kernel_rfl
theorem C6_13_9_0 (x p : S) (o4 o5 o6 o8 o10 : Option S) : segC ([some x, some p, I 6, Z (fr (1, 3)), o4, o5, o6, some (.lst ([1, 2, 2, 2, 1].map .int)), o8, Z (frs [(0, 1), (1, 21), (1, 7), (1, 3), (3, 7), (13, 21), (1, 1)]), o10, none]) = .nx ([some x, some p, I 6, Z (fr (1, 3)), o4, o5, o6, Z (nums [1, 2, 2, 2, 1]), o8, Z (frs [(0, 1), (1, 21), (1, 7), (1, 3), (3, 7), (13, 21), (1, 1)]), Z (.bl false), none]) := by kernel_rfl
theorem C6_13_9_1 (x p : S) (o4 o5 o6 o8 o10 : Option S) : segC ([some x, some p, I 6, Z (fr (1, 3)), o4, o5, o6, some (.lst ([1, 2, 2, 2, 1].map .int)), o8, Z (frs [(0, 1), (1, 6), (1, 3), (1, 2), (2, 3), (5, 6), (1, 1)]), o10, none]) = .nx ([some x, some p, I 6, Z (fr (1, 3)), o4, o5, o6, Z (nums [1, 2, 2, 2, 1]), o8, Z (frs [(0, 1), (1, 6), (1, 3), (1, 2), (2, 3), (5, 6), (1, 1)]), Z (.bl false), none]) := by kernel_rfl
theorem C6_13_10_0 (x p : S) (o4 o5 o6 o8 o10 : Option S) : segC ([some x, some p, I 6, Z (fr (1, 3)), o4, o5, o6, some (.lst ([1, 2, 3, 1, 1].map .int)), o8, Z (frs [(0, 1), (1, 21), (1, 7), (1, 3), (3, 7), (13, 21), (1, 1)]), o10, none]) = .nx ([some x, some p, I 6, Z (fr (1, 3)), o4, o5, o6, Z (nums [1, 2, 3, 1, 1]), o8, Z (frs [(0, 1), (1, 21), (1, 7), (1, 3), (3, 7), (13, 21), (1, 1)]), Z (.bl true), none]) := by kernel_rfl
theorem C6_13_10_1 (x p : S) (o4 o5 o6 o8 o10 : Option S) : segC ([some x, some p, I 6, Z (fr (1, 3)), o4, o5, o6, some (.lst ([1, 2, 3, 1, 1].map .int)), o8, Z (frs [(0, 1), (1, 6), (1, 3), (1, 2), (2, 3), (5, 6), (1, 1)]), o10, none]) = .nx ([some x, some p, I 6, Z (fr (1, 3)), o4, o5, o6, Z (nums [1, 2, 3, 1, 1]), o8, Z (frs [(0, 1), (1, 6), (1, 3), (1, 2), (2, 3), (5, 6), (1, 1)]), Z (.bl false), none]) := by kernel_rfl
theorem C6_13_11_0 (x p : S) (o4 o5 o6 o8 o10 : Option S) : segC ([some x, some p, I 6, Z (fr (1, 3)), o4, o5, o6, some (.lst ([1, 2, 3, 2, 1].map .int)), o8, Z (frs [(0, 1), (1, 21), (1, 7), (1, 3), (3, 7), (13, 21), (1, 1)]), o10, none]) = .nx ([some x, some p, I 6, Z (fr (1, 3)), o4, o5, o6, Z (nums [1, 2, 3, 2, 1]), o8, Z (frs [(0, 1), (1, 21), (1, 7), (1, 3), (3, 7), (13, 21), (1, 1)]), Z (.bl true), none]) := by kernel_rfl
theorem C6_13_11_1 (x p : S) (o4 o5 o6 o8 o10 : Option S) : segC ([some x, some p, I 6, Z (fr (1, 3)), o4, o5, o6, some (.lst ([1, 2, 3, 2, 1].map .int)), o8, Z (frs [(0, 1), (1, 6), (1, 3), (1, 2), (2, 3), (5, 6), (1, 1)]), o10, none]) = .nx ([some x, some p, I 6, Z (fr (1, 3)), o4, o5, o6, Z (nums [1, 2, 3, 2, 1]), o8, Z (frs [(0, 1), (1, 6), (1, 3), (1, 2), (2, 3), (5, 6), (1, 1)]), Z (.bl false), none]) := by kernel_rfl
theorem D6_13 (x p : S) (o4 o6 o7 o8 o9 o10 : Option S) : segD ([some x, some p, I 6, Z (fr (1, 3)), o4, Z (frs [(0, 1), (1, 21), (1, 7), (1, 3), (3, 7), (13, 21), (1, 1)]), o6, o7, o8, o9, o10, none]) = .rt (.fz (.bl true)) ([some x, some p, I 6, Z (fr (1, 3)), o4, Z (frs [(0, 1), (1, 21), (1, 7), (1, 3), (3, 7), (13, 21), (1, 1)]), o6, o7, o8, o9, o10, none]) := by kernel_rfl
theorem A6_23 (x p : S) : segA ([some x, some p, I 6, Z (fr (2, 3)), none, none, none, none, none, none, none, none]) = .nx ([some x, some p, I 6, Z (fr (2, 3)), Z (nums [1, 1, 1, 1, 1]), Z (frs [(0, 1), (32, 63), (16, 21), (8, 9), (20, 21), (62, 63), (1, 1)]), none, none, none, none, none, none]) := by kernel_rfl
theorem B6_23_0 (x p : S) (o6 o9 : Option S) : l8b ([some x, some p, I 6, Z (fr (2, 3)), Z (nums [1, 1, 1, 1, 1]), Z (frs [(0, 1), (32, 63), (16, 21), (8, 9), (20, 21), (62, 63), (1, 1)]), o6, Z (nums [1, 1, 1, 1, 1]), none, o9, none, none]) = .nx ([some x, some p, I 6, Z (fr (2, 3)), Z (nums [1, 1, 1, 1, 1]), Z (frs [(0, 1), (32, 63), (16, 21), (8, 9), (20, 21), (62, 63), (1, 1)]), o6, Z (nums [1, 1, 1, 1, 1]), none, Z (frs [(0, 1), (32, 63), (16, 21), (8, 9), (20, 21), (62, 63), (1, 1)]), none, none]) := by kernel_rfl
theorem B6_23_1 (x p : S) (o6 o9 : Option S) : l8b ([some x, some p, I 6, Z (fr (2, 3)), Z (nums [1, 1, 1, 1, 1]), Z (frs [(0, 1), (32, 63), (16, 21), (8, 9), (20, 21), (62, 63), (1, 1)]), o6, Z (nums [1, 1, 1, 2, 1]), none, o9, none, none]) = .nx ([some x, some p, I 6, Z (fr (2, 3)), Z (nums [1, 1, 1, 1, 1]), Z (frs [(0, 1), (32, 63), (16, 21), (8, 9), (20, 21), (62, 63), (1, 1)]), o6, Z (nums [1, 1, 1, 2, 1]), none, Z (frs [(0, 1), (16, 33), (8, 11), (28, 33), (10, 11), (32, 33), (1, 1)]), none, none]) := by kernel_rfl
theorem B6_23_2 (x p : S) (o6 o9 : Option S) : l8b ([some x, some p, I 6, Z (fr (2, 3)), Z (nums [1, 1, 1, 1, 1]), Z (frs [(0, 1), (32, 63), (16, 21), (8, 9), (20, 21), (62, 63), (1, 1)]), o6, Z (nums [1, 1, 2, 1, 1]), none, o9, none, none]) = .nx ([some x, some p, I 6, Z (fr (2, 3)), Z (nums [1, 1, 1, 1, 1]), Z (frs [(0, 1), (32, 63), (16, 21), (8, 9), (20, 21), (62, 63), (1, 1)]), o6, Z (nums [1, 1, 2, 1, 1]), none, Z (frs [(0, 1), (16, 35), (24, 35), (4, 5), (32, 35), (34, 35), (1, 1)]), none, none]) := by kernel_rfl
theorem B6_23_3 (x p : S) (o6 o9 : Option S) : l8b ([some x, some p, I 6, Z (fr (2, 3)), Z (nums [1, 1, 1, 1, 1]), Z (frs [(0, 1), (32, 63), (16, 21), (8, 9), (20, 21), (62, 63), (1, 1)]), o6, Z (nums [1, 1, 2, 2, 1]), none, o9, none, none]) = .nx ([some x, some p, I 6, Z (fr (2, 3)), Z (nums [1, 1, 1, 1, 1]), Z (frs [(0, 1), (32, 63), (16, 21), (8, 9), (20, 21), (62, 63), (1, 1)]), o6, Z (nums [1, 1, 2, 2, 1]), none, Z (frs [(0, 1), (64, 141), (32, 47), (112, 141), (42, 47), (136, 141), (1, 1)]), none, none]) := by kernel_rfl
theorem B6_23_4 (x p : S) (o6 o9 : Option S) : l8b ([some x, some p, I 6, Z (fr (2, 3)), Z (nums [1, 1, 1, 1, 1]), Z (frs [(0, 1), (32, 63), (16, 21), (8, 9), (20, 21), (62, 63), (1, 1)]), o6, Z (nums [1, 1, 3, 1, 1]), none, o9, none, none]) = .nx ([some x, some p, I 6, Z (fr (2, 3)), Z (nums [1, 1, 1, 1, 1]), Z (frs [(0, 1), (32, 63), (16, 21), (8, 9), (20, 21), (62, 63), (1, 1)]), o6, Z (nums [1, 1, 3, 1, 1]), none, Z (frs [(0, 1), (8, 21), (4, 7), (2, 3), (6, 7), (20, 21), (1, 1)]), none, none]) := by kernel_rfl
theorem B6_23_5 (x p : S) (o6 o9 : Option S) : l8b ([some x, some p, I 6, Z (fr (2, 3)), Z (nums [1, 1, 1, 1, 1]), Z (frs [(0, 1), (32, 63), (16, 21), (8, 9), (20, 21), (62, 63), (1, 1)]), o6, Z (nums [1, 1, 3, 2, 1]), none, o9, none, none]) = .nx ([some x, some p, I 6, Z (fr (2, 3)), Z (nums [1, 1, 1, 1, 1]), Z (frs [(0, 1), (32, 63), (16, 21), (8, 9), (20, 21), (62, 63), (1, 1)]), o6, Z (nums [1, 1, 3, 2, 1]), none, Z (frs [(0, 1), (8, 21), (4, 7), (2, 3), (6, 7), (20, 21), (1, 1)]), none, none]) := by kernel_rfl
theorem B6_23_6 (x p : S) (o6 o9 : Option S) : l8b ([some x, some p, I 6, Z (fr (2, 3)), Z (nums [1, 1, 1, 1, 1]), Z (frs [(0, 1), (32, 63), (16, 21), (8, 9), (20, 21), (62, 63), (1, 1)]), o6, Z (nums [1, 2, 1, 1, 1]), none, o9, none, none]) = .nx ([some x, some p, I 6, Z (fr (2, 3)), Z (nums [1, 1, 1, 1, 1]), Z (frs [(0, 1), (32, 63), (16, 21), (8, 9), (20, 21), (62, 63), (1, 1)]), o6, Z (nums [1, 2, 1, 1, 1]), none, Z (frs [(0, 1), (16, 39), (8, 13), (32, 39), (12, 13), (38, 39), (1, 1)]), none, none]) := by kernel_rfl
theorem B6_23_7 (x p : S) (o6 o9 : Option S) : l8b ([some x, some p, I 6, Z (fr (2, 3)), Z (nums [1, 1, 1, 1, 1]), Z (frs [(0, 1), (32, 63), (16, 21), (8, 9), (20, 21), (62, 63), (1, 1)]), o6, Z (nums [1, 2, 1, 2, 1]), none, o9, none, none]) = .nx ([some x, some p, I 6, Z (fr (2, 3)), Z (nums [1, 1, 1, 1, 1]), Z (frs [(0, 1), (32, 63), (16, 21), (8, 9), (20, 21), (62, 63), (1, 1)]), o6, Z (nums [1, 2, 1, 2, 1]), none, Z (frs [(0, 1), (8, 21), (4, 7), (16, 21), (6, 7), (20, 21), (1, 1)]), none, none]) := by kernel_rfl
theorem B6_23_8 (x p : S) (o6 o9 : Option S) : l8b ([some x, some p, I 6, Z (fr (2, 3)), Z (nums [1, 1, 1, 1, 1]), Z (frs [(0, 1), (32, 63), (16, 21), (8, 9), (20, 21), (62, 63), (1, 1)]), o6, Z (nums [1, 2, 2, 1, 1]), none, o9, none, none]) = .nx ([some x, some p, I 6, Z (fr (2, 3)), Z (nums [1, 1, 1, 1, 1]), Z (frs [(0, 1), (32, 63), (16, 21), (8, 9), (20, 21), (62, 63), (1, 1)]), o6, Z (nums [1, 2, 2, 1, 1]), none, Z (frs [(0, 1), (64, 159), (32, 53), (124, 159), (48, 53), (154, 159), (1, 1)]), none, none]) := by kernel_rfl
theorem B6_23_9 (x p : S) (o6 o9 : Option S) : l8b ([some x, some p, I 6, Z (fr (2, 3)), Z (nums [1, 1, 1, 1, 1]), Z (frs [(0, 1), (32, 63), (16, 21), (8, 9), (20, 21), (62, 63), (1, 1)]), o6, Z (nums [1, 2, 2, 2, 1]), none, o9, none, none]) = .nx ([some x, some p, I 6, Z (fr (2, 3)), Z (nums [1, 1, 1, 1, 1]), Z (frs [(0, 1), (32, 63), (16, 21), (8, 9), (20, 21), (62, 63), (1, 1)]), o6, Z (nums [1, 2, 2, 2, 1]), none, Z (frs [(0, 1), (8, 21), (4, 7), (16, 21), (6, 7), (20, 21), (1, 1)]), none, none]) := by kernel_rfl
theorem B6_23_10 (x p : S) (o6 o9 : Option S) : l8b ([some x, some p, I 6, Z (fr (2, 3)), Z (nums [1, 1, 1, 1, 1]), Z (frs [(0, 1), (32, 63), (16, 21), (8, 9), (20, 21), (62, 63), (1, 1)]), o6, Z (nums [1, 2, 3, 1, 1]), none, o9, none, none]) = .nx ([some x, some p, I 6, Z (fr (2, 3)), Z (nums [1, 1, 1, 1, 1]), Z (frs [(0, 1), (32, 63), (16, 21), (8, 9), (20, 21), (62, 63), (1, 1)]), o6, Z (nums [1, 2, 3, 1, 1]), none, Z (frs [(0, 1), (8, 21), (4, 7), (2, 3), (6, 7), (20, 21), (1, 1)]), none, none]) := by kernel_rfl
theorem B6_23_11 (x p : S) (o6 o9 : Option S) : l8b ([some x, some p, I 6, Z (fr (2, 3)), Z (nums [1, 1, 1, 1, 1]), Z (frs [(0, 1), (32, 63), (16, 21), (8, 9), (20, 21), (62, 63), (1, 1)]), o6, Z (nums [1, 2, 3, 2, 1]), none, o9, none, none]) = .nx ([some x, some p, I 6, Z (fr (2, 3)), Z (nums [1, 1, 1, 1, 1]), Z (frs [(0, 1), (32, 63), (16, 21), (8, 9), (20, 21), (62, 63), (1, 1)]), o6, Z (nums [1, 2, 3, 2, 1]), none, Z (frs [(0, 1), (8, 21), (4, 7), (2, 3), (6, 7), (20, 21), (1, 1)]), none, none]) := by kernel_rfl
theorem L6_23 (x p : S) (o4 o6 o7 o8 o9 o10 : Option S) : t9 ([some x, some p, I 6, Z (fr (2, 3)), o4, Z (frs [(0, 1), (32, 63), (16, 21), (8, 9), (20, 21), (62, 63), (1, 1)]), o6, o7, o8, o9, o10, none]) = .ok (.lst [frs [(0, 1), (32, 63), (16, 21), (8, 9), (20, 21), (62, 63), (1, 1)], frs [(0, 1), (1, 6), (1, 3), (1, 2), (2, 3), (5, 6), (1, 1)]], [some x, some p, I 6, Z (fr (2, 3)), o4, Z (frs [(0, 1), (32, 63), (16, 21), (8, 9), (20, 21), (62, 63), (1, 1)]), o6, o7, o8, o9, o10, none]) := by kernel_rfl
theorem C6_23_0_0 (x p : S) (o4 o5 o6 o8 o10 : Option S) : segC ([some x, some p, I 6, Z (fr (2, 3)), o4, o5, o6, some (.lst ([1, 1, 1, 1, 1].map .int)), o8, Z (frs [(0, 1), (32, 63), (16, 21), (8, 9), (20, 21), (62, 63), (1, 1)]), o10, none]) = .nx ([some x, some p, I 6, Z (fr (2, 3)), o4, o5, o6, Z (nums [1, 1, 1, 1, 1]), o8, Z (frs [(0, 1), (32, 63), (16, 21), (8, 9), (20, 21), (62, 63), (1, 1)]), Z (.bl true), none]) := by kernel_rfl
theorem C6_23_0_1 (x p : S) (o4 o5 o6 o8 o10 : Option S) : segC ([some x, some p, I 6, Z (fr (2, 3)), o4, o5, o6, some (.lst ([1, 1, 1, 1, 1].map .int)), o8, Z (frs [(0, 1), (1, 6), (1, 3), (1, 2), (2, 3), (5, 6), (1, 1)]), o10, none]) = .nx ([some x, some p, I 6, Z (fr (2, 3)), o4, o5, o6, Z (nums [1, 1, 1, 1, 1]), o8, Z (frs [(0, 1), (1, 6), (1, 3), (1, 2), (2, 3), (5, 6), (1, 1)]), Z (.bl false), none]) := by kernel_rfl
theorem C6_23_1_0 (x p : S) (o4 o5 o6 o8 o10 : Option S) : segC ([some x, some p, I 6, Z (fr (2, 3)), o4, o5, o6, some (.lst ([1, 1, 1, 2, 1].map .int)), o8, Z (frs [(0, 1), (32, 63), (16, 21), (8, 9), (20, 21), (62, 63), (1, 1)]), o10, none]) = .nx ([some x, some p, I 6, Z (fr (2, 3)), o4, o5, o6, Z (nums [1, 1, 1, 2, 1]), o8, Z (frs [(0, 1), (32, 63), (16, 21), (8, 9), (20, 21), (62, 63), (1, 1)]), Z (.bl false), none]) := by kernel_rfl
theorem C6_23_1_1 (x p : S) (o4 o5 o6 o8 o10 : Option S) : segC ([some x, some p, I 6, Z (fr (2, 3)), o4, o5, o6, some (.lst ([1, 1, 1, 2, 1].map .int)), o8, Z (frs [(0, 1), (1, 6), (1, 3), (1, 2), (2, 3), (5, 6), (1, 1)]), o10, none]) = .nx ([some x, some p, I 6, Z (fr (2, 3)), o4, o5, o6, Z (nums [1, 1, 1, 2, 1]), o8, Z (frs [(0, 1), (1, 6), (1, 3), (1, 2), (2, 3), (5, 6), (1, 1)]), Z (.bl false), none]) := by kernel_rfl
theorem C6_23_2_0 (x p : S) (o4 o5 o6 o8 o10 : Option S) : segC ([some x, some p, I 6, Z (fr (2, 3)), o4, o5, o6, some (.lst ([1, 1, 2, 1, 1].map .int)), o8, Z (frs [(0, 1), (32, 63), (16, 21), (8, 9), (20, 21), (62, 63), (1, 1)]), o10, none]) = .nx ([some x, some p, I 6, Z (fr (2, 3)), o4, o5, o6, Z (nums [1, 1, 2, 1, 1]), o8, Z (frs [(0, 1), (32, 63), (16, 21), (8, 9), (20, 21), (62, 63), (1, 1)]), Z (.bl false), none]) := by kernel_rfl
theorem C6_23_2_1 (x p : S) (o4 o5 o6 o8 o10 : Option S) : segC ([some x, some p, I 6, Z (fr (2, 3)), o4, o5, o6, some (.lst ([1, 1, 2, 1, 1].map .int)), o8, Z (frs [(0, 1), (1, 6), (1, 3), (1, 2), (2, 3), (5, 6), (1, 1)]), o10, none]) = .nx ([some x, some p, I 6, Z (fr (2, 3)), o4, o5, o6, Z (nums [1, 1, 2, 1, 1]), o8, Z (frs [(0, 1), (1, 6), (1, 3), (1, 2), (2, 3), (5, 6), (1, 1)]), Z (.bl false), none]) := by kernel_rfl
theorem C6_23_3_0 (x p : S) (o4 o5 o6 o8 o10 : Option S) : segC ([some x, some p, I 6, Z (fr (2, 3)), o4, o5, o6, some (.lst ([1, 1, 2, 2, 1].map .int)), o8, Z (frs [(0, 1), (32, 63), (16, 21), (8, 9), (20, 21), (62, 63), (1, 1)]), o10, none]) = .nx ([some x, some p, I 6, Z (fr (2, 3)), o4, o5, o6, Z (nums [1, 1, 2, 2, 1]), o8, Z (frs [(0, 1), (32, 63), (16, 21), (8, 9), (20, 21), (62, 63), (1, 1)]), Z (.bl false), none]) := by kernel_rfl
theorem C6_23_3_1 (x p : S) (o4 o5 o6 o8 o10 : Option S) : segC ([some x, some p, I 6, Z (fr (2, 3)), o4, o5, o6, some (.lst ([1, 1, 2, 2, 1].map .int)), o8, Z (frs [(0, 1), (1, 6), (1, 3), (1, 2), (2, 3), (5, 6), (1, 1)]), o10, none]) = .nx ([some x, some p, I 6, Z (fr (2, 3)), o4, o5, o6, Z (nums [1, 1, 2, 2, 1]), o8, Z (frs [(0, 1), (1, 6), (1, 3), (1, 2), (2, 3), (5, 6), (1, 1)]), Z (.bl false), none]) := by kernel_rfl
theorem C6_23_4_0 (x p : S) (o4 o5 o6 o8 o10 : Option S) : segC ([some x, some p, I 6, Z (fr (2, 3)), o4, o5, o6, some (.lst ([1, 1, 3, 1, 1].map .int)), o8, Z (frs [(0, 1), (32, 63), (16, 21), (8, 9), (20, 21), (62, 63), (1, 1)]), o10, none]) = .nx ([some x, some p, I 6, Z (fr (2, 3)), o4, o5, o6, Z (nums [1, 1, 3, 1, 1]), o8, Z (frs [(0, 1), (32, 63), (16, 21), (8, 9), (20, 21), (62, 63), (1, 1)]), Z (.bl false), none]) := by kernel_rfl
theorem C6_23_4_1 (x p : S) (o4 o5 o6 o8 o10 : Option S) : segC ([some x, some p, I 6, Z (fr (2, 3)), o4, o5, o6, some (.lst ([1, 1, 3, 1, 1].map .int)), o8, Z (frs [(0, 1), (1, 6), (1, 3), (1, 2), (2, 3), (5, 6), (1, 1)]), o10, none]) = .nx ([some x, some p, I 6, Z (fr (2, 3)), o4, o5, o6, Z (nums [1, 1, 3, 1, 1]), o8, Z (frs [(0, 1), (1, 6), (1, 3), (1, 2), (2, 3), (5, 6), (1, 1)]), Z (.bl false), none]) := by kernel_rfl
theorem C6_23_5_0 (x p : S) (o4 o5 o6 o8 o10 : Option S) : segC ([some x, some p, I 6, Z (fr (2, 3)), o4, o5, o6, some (.lst ([1, 1, 3, 2, 1].map .int)), o8, Z (frs [(0, 1), (32, 63), (16, 21), (8, 9), (20, 21), (62, 63), (1, 1)]), o10, none]) = .nx ([some x, some p, I 6, Z (fr (2, 3)), o4, o5, o6, Z (nums [1, 1, 3, 2, 1]), o8, Z (frs [(0, 1), (32, 63), (16, 21), (8, 9), (20, 21), (62, 63), (1, 1)]), Z (.bl false), none]) := by kernel_rfl
theorem C6_23_5_1 (x p : S) (o4 o5 o6 o8 o10 : Option S) : segC ([some x, some p, I 6, Z (fr (2, 3)), o4, o5, o6, some (.lst ([1, 1, 3, 2, 1].map .int)), o8, Z (frs [(0, 1), (1, 6), (1, 3), (1, 2), (2, 3), (5, 6), (1, 1)]), o10, none]) = .nx ([some x, some p, I 6, Z (fr (2, 3)), o4, o5, o6, Z (nums [1, 1, 3, 2, 1]), o8, Z (frs [(0, 1), (1, 6), (1, 3), (1, 2), (2, 3), (5, 6), (1, 1)]), Z (.bl false), none]) := by kernel_rfl
theorem C6_23_6_0 (x p : S) (o4 o5 o6 o8 o10 : Option S) : segC ([some x, some p, I 6, Z (fr (2, 3)), o4, o5, o6, some (.lst ([1, 2, 1, 1, 1].map .int)), o8, Z (frs [(0, 1), (32, 63), (16, 21), (8, 9), (20, 21), (62, 63), (1, 1)]), o10, none]) = .nx ([some x, some p, I 6, Z (fr (2, 3)), o4, o5, o6, Z (nums [1, 2, 1, 1, 1]), o8, Z (frs [(0, 1), (32, 63), (16, 21), (8, 9), (20, 21), (62, 63), (1, 1)]), Z (.bl false), none]) := by kernel_rfl
theorem C6_23_6_1 (x p : S) (o4 o5 o6 o8 o10 : Option S) : segC ([some x, some p, I 6, Z (fr (2, 3)), o4, o5, o6, some (.lst ([1, 2, 1, 1, 1].map .int)), o8, Z (frs [(0, 1), (1, 6), (1, 3), (1, 2), (2, 3), (5, 6), (1, 1)]), o10, none]) = .nx ([some x, some p, I 6, Z (fr (2, 3)), o4, o5, o6, Z (nums [1, 2, 1, 1, 1]), o8, Z (frs [(0, 1), (1, 6), (1, 3), (1, 2), (2, 3), (5, 6), (1, 1)]), Z (.bl false), none]) := by kernel_rfl
theorem C6_23_7_0 (x p : S) (o4 o5 o6 o8 o10 : Option S) : segC ([some x, some p, I 6, Z (fr (2, 3)), o4, o5, o6, some (.lst ([1, 2, 1, 2, 1].map .int)), o8, Z (frs [(0, 1), (32, 63), (16, 21), (8, 9), (20, 21), (62, 63), (1, 1)]), o10, none]) = .nx ([some x, some p, I 6, Z (fr (2, 3)), o4, o5, o6, Z (nums [1, 2, 1, 2, 1]), o8, Z (frs [(0, 1), (32, 63), (16, 21), (8, 9), (20, 21), (62, 63), (1, 1)]), Z (.bl false), none]) := by kernel_rfl
theorem C6_23_7_1 (x p : S) (o4 o5 o6 o8 o10 : Option S) : segC ([some x, some p, I 6, Z (fr (2, 3)), o4, o5, o6, some (.lst ([1, 2, 1, 2, 1].map .int)), o8, Z (frs [(0, 1), (1, 6), (1, 3), (1, 2), (2, 3), (5, 6), (1, 1)]), o10, none]) = .nx ([some x, some p, I 6, Z (fr (2, 3)), o4, o5, o6, Z (nums [1, 2, 1, 2, 1]), o8, Z (frs [(0, 1), (1, 6), (1, 3), (1, 2), (2, 3), (5, 6), (1, 1)]), Z (.bl false), none]) := by kernel_rfl
theorem C6_23_8_0 (x p : S) (o4 o5 o6 o8 o10 : Option S) : segC ([some x, some p, I 6, Z (fr (2, 3)), o4, o5, o6, some (.lst ([1, 2, 2, 1, 1].map .int)), o8, Z (frs [(0, 1), (32, 63), (16, 21), (8, 9), (20, 21), (62, 63), (1, 1)]), o10, none]) = .nx ([some x, some p, I 6, Z (fr (2, 3)), o4, o5, o6, Z (nums [1, 2, 2, 1, 1]), o8, Z (frs [(0, 1), (32, 63), (16, 21), (8, 9), (20, 21), (62, 63), (1, 1)]), Z (.bl false), none]) := by kernel_rfl
theorem C6_23_8_1 (x p : S) (o4 o5 o6 o8 o10 : Option S) : segC ([some x, some p, I 6, Z (fr (2, 3)), o4, o5, o6, some (.lst ([1, 2, 2, 1, 1].map .int)), o8, Z (frs [(0, 1), (1, 6), (1, 3), (1, 2), (2, 3), (5, 6), (1, 1)]), o10, none]) = .nx ([some x, some p, I 6, Z (fr (2, 3)), o4, o5, o6, Z (nums [1, 2, 2, 1, 1]), o8, Z (frs [(0, 1), (1, 6), (1, 3), (1, 2), (2, 3), (5, 6), (1, 1)]), Z (.bl false), none]) := by kernel_rfl
theorem C6_23_9_0 (x p : S) (o4 o5 o6 o8 o10 : Option S) : segC ([some x, some p, I 6, Z (fr (2, 3)), o4, o5, o6, some (.lst ([1, 2, 2, 2, 1].map .int)), o8, Z (frs [(0, 1), (32, 63), (16, 21), (8, 9), (20, 21), (62, 63), (1, 1)]), o10, none]) = .nx ([some x, some p, I 6, Z (fr (2, 3)), o4, o5, o6, Z (nums [1, 2, 2, 2, 1]), o8, Z (frs [(0, 1), (32, 63), (16, 21), (8, 9), (20, 21), (62, 63), (1, 1)]), Z (.bl false), none]) := by kernel_rfl
theorem C6_23_9_1 (x p : S) (o4 o5 o6 o8 o10 : Option S) : segC ([some x, some p, I 6, Z (fr (2, 3)), o4, o5, o6, some (.lst ([1, 2, 2, 2, 1].map .int)), o8, Z (frs [(0, 1), (1, 6), (1, 3), (1, 2), (2, 3), (5, 6), (1, 1)]), o10, none]) = .nx ([some x, some p, I 6, Z (fr (2, 3)), o4, o5, o6, Z (nums [1, 2, 2, 2, 1]), o8, Z (frs [(0, 1), (1, 6), (1, 3), (1, 2), (2, 3), (5, 6), (1, 1)]), Z (.bl false), none]) := by kernel_rfl
theorem C6_23_10_0 (x p : S) (o4 o5 o6 o8 o10 : Option S) : segC ([some x, some p, I 6, Z (fr (2, 3)), o4, o5, o6, some (.lst ([1, 2, 3, 1, 1].map .int)), o8, Z (frs [(0, 1), (32, 63), (16, 21), (8, 9), (20, 21), (62, 63), (1, 1)]), o10, none]) = .nx ([some x, some p, I 6, Z (fr (2, 3)), o4, o5, o6, Z (nums [1, 2, 3, 1, 1]), o8, Z (frs [(0, 1), (32, 63), (16, 21), (8, 9), (20, 21), (62, 63), (1, 1)]), Z (.bl false), none]) := by kernel_rfl
theorem C6_23_10_1 (x p : S) (o4 o5 o6 o8 o10 : Option S) : segC ([some x, some p, I 6, Z (fr (2, 3)), o4, o5, o6, some (.lst ([1, 2, 3, 1, 1].map .int)), o8, Z (frs [(0, 1), (1, 6), (1, 3), (1, 2), (2, 3), (5, 6), (1, 1)]), o10, none]) = .nx ([some x, some p, I 6, Z (fr (2, 3)), o4, o5, o6, Z (nums [1, 2, 3, 1, 1]), o8, Z (frs [(0, 1), (1, 6), (1, 3), (1, 2), (2, 3), (5, 6), (1, 1)]), Z (.bl false), none]) := by kernel_rfl
theorem C6_23_11_0 (x p : S) (o4 o5 o6 o8 o10 : Option S) : segC ([some x, some p, I 6, Z (fr (2, 3)), o4, o5, o6, some (.lst ([1, 2, 3, 2, 1].map .int)), o8, Z (frs [(0, 1), (32, 63), (16, 21), (8, 9), (20, 21), (62, 63), (1, 1)]), o10, none]) = .nx ([some x, some p, I 6, Z (fr (2, 3)), o4, o5, o6, Z (nums [1, 2, 3, 2, 1]), o8, Z (frs [(0, 1), (32, 63), (16, 21), (8, 9), (20, 21), (62, 63), (1, 1)]), Z (.bl false), none]) := by kernel_rfl
theorem C6_23_11_1 (x p : S) (o4 o5 o6 o8 o10 : Option S) : segC ([some x, some p, I 6, Z (fr (2, 3)), o4, o5, o6, some (.lst ([1, 2, 3, 2, 1].map .int)), o8, Z (frs [(0, 1), (1, 6), (1, 3), (1, 2), (2, 3), (5, 6), (1, 1)]), o10, none]) = .nx ([some x, some p, I 6, Z (fr (2, 3)), o4, o5, o6, Z (nums [1, 2, 3, 2, 1]), o8, Z (frs [(0, 1), (1, 6), (1, 3), (1, 2), (2, 3), (5, 6), (1, 1)]), Z (.bl false), none]) := by kernel_rfl
theorem D6_23 (x p : S) (o4 o6 o7 o8 o9 o10 : Option S) : segD ([some x, some p, I 6, Z (fr (2, 3)), o4, Z (frs [(0, 1), (32, 63), (16, 21), (8, 9), (20, 21), (62, 63), (1, 1)]), o6, o7, o8, o9, o10, none]) = .rt (.fz (.bl true)) ([some x, some p, I 6, Z (fr (2, 3)), o4, Z (frs [(0, 1), (32, 63), (16, 21), (8, 9), (20, 21), (62, 63), (1, 1)]), o6, o7, o8, o9, o10, none]) := by kernel_rfl
theorem A6_25 (x p : S) : segA ([some x, some p, I 6, Z (fr (2, 5)), none, none, none, none, none, none, none, none]) = .nx ([some x, some p, I 6, Z (fr (2, 5)), Z (nums [1, 2, 3, 2, 1]), Z (frs [(0, 1), (8, 95), (4, 19), (2, 5), (10, 19), (68, 95), (1, 1)]), none, none, none, none, none, none]) := by kernel_rfl
theorem B6_25_0 (x p : S) (o6 o9 : Option S) : l8b ([some x, some p, I 6, Z (fr (2, 5)), Z (nums [1, 2, 3, 2, 1]), Z (frs [(0, 1), (8, 95), (4, 19), (2, 5), (10, 19), (68, 95), (1, 1)]), o6, Z (nums [1, 1, 1, 1, 1]), none, o9, none, none]) = .nx ([some x, some p, I 6, Z (fr (2, 5)), Z (nums [1, 2, 3, 2, 1]), Z (frs [(0, 1), (8, 95), (4, 19), (2, 5), (10, 19), (68, 95), (1, 1)]), o6, Z (nums [1, 1, 1, 1, 1]), none, Z (frs [(0, 1), (32, 665), (16, 133), (8, 35), (52, 133), (422, 665), (1, 1)]), none, none]) := by kernel_rfl
theorem B6_25_1 (x p : S) (o6 o9 : Option S) : l8b ([some x, some p, I 6, Z (fr (2, 5)), Z (nums [1, 2, 3, 2, 1]), Z (frs [(0, 1), (8, 95), (4, 19), (2, 5), (10, 19), (68, 95), (1, 1)]), o6, Z (nums [1, 1, 1, 2, 1]), none, o9, none, none]) = .nx ([some x, some p, I 6, Z (fr (2, 5)), Z (nums [1, 2, 3, 2, 1]), Z (frs [(0, 1), (8, 95), (4, 19), (2, 5), (10, 19), (68, 95), (1, 1)]), o6, Z (nums [1, 1, 1, 2, 1]), none, Z (frs [(0, 1), (16, 265), (8, 53), (76, 265), (26, 53), (184, 265), (1, 1)]), none, none]) := by kernel_rfl
theorem B6_25_2 (x p : S) (o6 o9 : Option S) : l8b ([some x, some p, I 6, Z (fr (2, 5)), Z (nums [1, 2, 3, 2, 1]), Z (frs [(0, 1), (8, 95), (4, 19), (2, 5), (10, 19), (68, 95), (1, 1)]), o6, Z (nums [1, 1, 2, 1, 1]), none, o9, none, none]) = .nx ([some x, some p, I 6, Z (fr (2, 5)), Z (nums [1, 2, 3, 2, 1]), Z (frs [(0, 1), (8, 95), (4, 19), (2, 5), (10, 19), (68, 95), (1, 1)]), o6, Z (nums [1, 1, 2, 1, 1]), none, Z (frs [(0, 1), (16, 247), (40, 247), (4, 13), (112, 247), (166, 247), (1, 1)]), none, none]) := by kernel_rfl
theorem B6_25_3 (x p : S) (o6 o9 : Option S) : l8b ([some x, some p, I 6, Z (fr (2, 5)), Z (nums [1, 2, 3, 2, 1]), Z (frs [(0, 1), (8, 95), (4, 19), (2, 5), (10, 19), (68, 95), (1, 1)]), o6, Z (nums [1, 1, 2, 2, 1]), none, o9, none, none]) = .nx ([some x, some p, I 6, Z (fr (2, 5)), Z (nums [1, 2, 3, 2, 1]), Z (frs [(0, 1), (8, 95), (4, 19), (2, 5), (10, 19), (68, 95), (1, 1)]), o6, Z (nums [1, 1, 2, 2, 1]), none, Z (frs [(0, 1), (128, 1895), (64, 379), (608, 1895), (190, 379), (1328, 1895), (1, 1)]), none, none]) := by kernel_rfl
theorem B6_25_4 (x p : S) (o6 o9 : Option S) : l8b ([some x, some p, I 6, Z (fr (2, 5)), Z (nums [1, 2, 3, 2, 1]), Z (frs [(0, 1), (8, 95), (4, 19), (2, 5), (10, 19), (68, 95), (1, 1)]), o6, Z (nums [1, 1, 3, 1, 1]), none, o9, none, none]) = .nx ([some x, some p, I 6, Z (fr (2, 5)), Z (nums [1, 2, 3, 2, 1]), Z (frs [(0, 1), (8, 95), (4, 19), (2, 5), (10, 19), (68, 95), (1, 1)]), o6, Z (nums [1, 1, 3, 1, 1]), none, Z (frs [(0, 1), (8, 95), (4, 19), (2, 5), (10, 19), (68, 95), (1, 1)]), none, none]) := by kernel_rfl
theorem B6_25_5 (x p : S) (o6 o9 : Option S) : l8b ([some x, some p, I 6, Z (fr (2, 5)), Z (nums [1, 2, 3, 2, 1]), Z (frs [(0, 1), (8, 95), (4, 19), (2, 5), (10, 19), (68, 95), (1, 1)]), o6, Z (nums [1, 1, 3, 2, 1]), none, o9, none, none]) = .nx ([some x, some p, I 6, Z (fr (2, 5)), Z (nums [1, 2, 3, 2, 1]), Z (frs [(0, 1), (8, 95), (4, 19), (2, 5), (10, 19), (68, 95), (1, 1)]), o6, Z (nums [1, 1, 3, 2, 1]), none, Z (frs [(0, 1), (8, 95), (4, 19), (2, 5), (10, 19), (68, 95), (1, 1)]), none, none]) := by kernel_rfl
theorem B6_25_6 (x p : S) (o6 o9 : Option S) : l8b ([some x, some p, I 6, Z (fr (2, 5)), Z (nums [1, 2, 3, 2, 1]), Z (frs [(0, 1), (8, 95), (4, 19), (2, 5), (10, 19), (68, 95), (1, 1)]), o6, Z (nums [1, 2, 1, 1, 1]), none, o9, none, none]) = .nx ([some x, some p, I 6, Z (fr (2, 5)), Z (nums [1, 2, 3, 2, 1]), Z (frs [(0, 1), (8, 95), (4, 19), (2, 5), (10, 19), (68, 95), (1, 1)]), o6, Z (nums [1, 2, 1, 1, 1]), none, Z (frs [(0, 1), (16, 235), (8, 47), (64, 235), (20, 47), (154, 235), (1, 1)]), none, none]) := by kernel_rfl
theorem B6_25_7 (x p : S) (o6 o9 : Option S) : l8b ([some x, some p, I 6, Z (fr (2, 5)), Z (nums [1, 2, 3, 2, 1]), Z (frs [(0, 1), (8, 95), (4, 19), (2, 5), (10, 19), (68, 95), (1, 1)]), o6, Z (nums [1, 2, 1, 2, 1]), none, o9, none, none]) = .nx ([some x, some p, I 6, Z (fr (2, 5)), Z (nums [1, 2, 3, 2, 1]), Z (frs [(0, 1), (8, 95), (4, 19), (2, 5), (10, 19), (68, 95), (1, 1)]), o6, Z (nums [1, 2, 1, 2, 1]), none, Z (frs [(0, 1), (8, 95), (4, 19), (32, 95), (10, 19), (68, 95), (1, 1)]), none, none]) := by kernel_rfl
theorem B6_25_8 (x p : S) (o6 o9 : Option S) : l8b ([some x, some p, I 6, Z (fr (2, 5)), Z (nums [1, 2, 3, 2, 1]), Z (frs [(0, 1), (8, 95), (4, 19), (2, 5), (10, 19), (68, 95), (1, 1)]), o6, Z (nums [1, 2, 2, 1, 1]), none, o9, none, none]) = .nx ([some x, some p, I 6, Z (fr (2, 5)), Z (nums [1, 2, 3, 2, 1]), Z (frs [(0, 1), (8, 95), (4, 19), (2, 5), (10, 19), (68, 95), (1, 1)]), o6, Z (nums [1, 2, 2, 1, 1]), none, Z (frs [(0, 1), (128, 1745), (64, 349), (548, 1745), (160, 349), (1178, 1745), (1, 1)]), none, none]) := by kernel_rfl
theorem B6_25_9 (x p : S) (o6 o9 : Option S) : l8b ([some x, some p, I 6, Z (fr (2, 5)), Z (nums [1, 2, 3, 2, 1]), Z (frs [(0, 1), (8, 95), (4, 19), (2, 5), (10, 19), (68, 95), (1, 1)]), o6, Z (nums [1, 2, 2, 2, 1]), none, o9, none, none]) = .nx ([some x, some p, I 6, Z (fr (2, 5)), Z (nums [1, 2, 3, 2, 1]), Z (frs [(0, 1), (8, 95), (4, 19), (2, 5), (10, 19), (68, 95), (1, 1)]), o6, Z (nums [1, 2, 2, 2, 1]), none, Z (frs [(0, 1), (8, 95), (4, 19), (32, 95), (10, 19), (68, 95), (1, 1)]), none, none]) := by kernel_rfl
theorem B6_25_10 (x p : S) (o6 o9 : Option S) : l8b ([some x, some p, I 6, Z (fr (2, 5)), Z (nums [1, 2, 3, 2, 1]), Z (frs [(0, 1), (8, 95), (4, 19), (2, 5), (10, 19), (68, 95), (1, 1)]), o6, Z (nums [1, 2, 3, 1, 1]), none, o9, none, none]) = .nx ([some x, some p, I 6, Z (fr (2, 5)), Z (nums [1, 2, 3, 2, 1]), Z (frs [(0, 1), (8, 95), (4, 19), (2, 5), (10, 19), (68, 95), (1, 1)]), o6, Z (nums [1, 2, 3, 1, 1]), none, Z (frs [(0, 1), (8, 95), (4, 19), (2, 5), (10, 19), (68, 95), (1, 1)]), none, none]) := by kernel_rfl
theorem B6_25_11 (x p : S) (o6 o9 : Option S) : l8b ([some x, some p, I 6, Z (fr (2, 5)), Z (nums [1, 2, 3, 2, 1]), Z (frs [(0, 1), (8, 95), (4, 19), (2, 5), (10, 19), (68, 95), (1, 1)]), o6, Z (nums [1, 2, 3, 2, 1]), none, o9, none, none]) = .nx ([some x, some p, I 6, Z (fr (2, 5)), Z (nums [1, 2, 3, 2, 1]), Z (frs [(0, 1), (8, 95), (4, 19), (2, 5), (10, 19), (68, 95), (1, 1)]), o6, Z (nums [1, 2, 3, 2, 1]), none, Z (frs [(0, 1), (8, 95), (4, 19), (2, 5), (10, 19), (68, 95), (1, 1)]), none, none]) := by kernel_rfl
theorem L6_25 (x p : S) (o4 o6 o7 o8 o9 o10 : Option S) : t9 ([some x, some p, I 6, Z (fr (2, 5)), o4, Z (frs [(0, 1), (8, 95), (4, 19), (2, 5), (10, 19), (68, 95), (1, 1)]), o6, o7, o8, o9, o10, none]) = .ok (.lst [frs [(0, 1), (8, 95), (4, 19), (2, 5), (10, 19), (68, 95), (1, 1)], frs [(0, 1), (1, 6), (1, 3), (1, 2), (2, 3), (5, 6), (1, 1)]], [some x, some p, I 6, Z (fr (2, 5)), o4, Z (frs [(0, 1), (8, 95), (4, 19), (2, 5), (10, 19), (68, 95), (1, 1)]), o6, o7, o8, o9, o10, none]) := by kernel_rfl
theorem C6_25_0_0 (x p : S) (o4 o5 o6 o8 o10 : Option S) : segC ([some x, some p, I 6, Z (fr (2, 5)), o4, o5, o6, some (.lst ([1, 1, 1, 1, 1].map .int)), o8, Z (frs [(0, 1), (8, 95), (4, 19), (2, 5), (10, 19), (68, 95), (1, 1)]), o10, none]) = .nx ([some x, some p, I 6, Z (fr (2, 5)), o4, o5, o6, Z (nums [1, 1, 1, 1, 1]), o8, Z (frs [(0, 1), (8, 95), (4, 19), (2, 5), (10, 19), (68, 95), (1, 1)]), Z (.bl false), none]) := by kernel_rfl
theorem C6_25_0_1 (x p : S) (o4 o5 o6 o8 o10 : Option S) : segC ([some x, some p, I 6, Z (fr (2, 5)), o4, o5, o6, some (.lst ([1, 1, 1, 1, 1].map .int)), o8, Z (frs [(0, 1), (1, 6), (1, 3), (1, 2), (2, 3), (5, 6), (1, 1)]), o10, none]) = .nx ([some x, some p, I 6, Z (fr (2, 5)), o4, o5, o6, Z (nums [1, 1, 1, 1, 1]), o8, Z (frs [(0, 1), (1, 6), (1, 3), (1, 2), (2, 3), (5, 6), (1, 1)]), Z (.bl false), none]) := by kernel_rfl
theorem C6_25_1_0 (x p : S) (o4 o5 o6 o8 o10 : Option S) : segC ([some x, some p, I 6, Z (fr (2, 5)), o4, o5, o6, some (.lst ([1, 1, 1, 2, 1].map .int)), o8, Z (frs [(0, 1), (8, 95), (4, 19), (2, 5), (10, 19), (68, 95), (1, 1)]), o10, none]) = .nx ([some x, some p, I 6, Z (fr (2, 5)), o4, o5, o6, Z (nums [1, 1, 1, 2, 1]), o8, Z (frs [(0, 1), (8, 95), (4, 19), (2, 5), (10, 19), (68, 95), (1, 1)]), Z (.bl false), none]) := by kernel_rfl
theorem C6_25_1_1 (x p : S) (o4 o5 o6 o8 o10 : Option S) : segC ([some x, some p, I 6, Z (fr (2, 5)), o4, o5, o6, some (.lst ([1, 1, 1, 2, 1].map .int)), o8, Z (frs [(0, 1), (1, 6), (1, 3), (1, 2), (2, 3), (5, 6), (1, 1)]), o10, none]) = .nx ([some x, some p, I 6, Z (fr (2, 5)), o4, o5, o6, Z (nums [1, 1, 1, 2, 1]), o8, Z (frs [(0, 1), (1, 6), (1, 3), (1, 2), (2, 3), (5, 6), (1, 1)]), Z (.bl false), none]) := by kernel_rfl
theorem C6_25_2_0 (x p : S) (o4 o5 o6 o8 o10 : Option S) : segC ([some x, some p, I 6, Z (fr (2, 5)), o4, o5, o6, some (.lst ([1, 1, 2, 1, 1].map .int)), o8, Z (frs [(0, 1), (8, 95), (4, 19), (2, 5), (10, 19), (68, 95), (1, 1)]), o10, none]) = .nx ([some x, some p, I 6, Z (fr (2, 5)), o4, o5, o6, Z (nums [1, 1, 2, 1, 1]), o8, Z (frs [(0, 1), (8, 95), (4, 19), (2, 5), (10, 19), (68, 95), (1, 1)]), Z (.bl false), none]) := by kernel_rfl
theorem C6_25_2_1 (x p : S) (o4 o5 o6 o8 o10 : Option S) : segC ([some x, some p, I 6, Z (fr (2, 5)), o4, o5, o6, some (.lst ([1, 1, 2, 1, 1].map .int)), o8, Z (frs [(0, 1), (1, 6), (1, 3), (1, 2), (2, 3), (5, 6), (1, 1)]), o10, none]) = .nx ([some x, some p, I 6, Z (fr (2, 5)), o4, o5, o6, Z (nums [1, 1, 2, 1, 1]), o8, Z (frs [(0, 1), (1, 6), (1, 3), (1, 2), (2, 3), (5, 6), (1, 1)]), Z (.bl false), none]) := by kernel_rfl
theorem C6_25_3_0 (x p : S) (o4 o5 o6 o8 o10 : Option S) : segC ([some x, some p, I 6, Z (fr (2, 5)), o4, o5, o6, some (.lst ([1, 1, 2, 2, 1].map .int)), o8, Z (frs [(0, 1), (8, 95), (4, 19), (2, 5), (10, 19), (68, 95), (1, 1)]), o10, none]) = .nx ([some x, some p, I 6, Z (fr (2, 5)), o4, o5, o6, Z (nums [1, 1, 2, 2, 1]), o8, Z (frs [(0, 1), (8, 95), (4, 19), (2, 5), (10, 19), (68, 95), (1, 1)]), Z (.bl false), none]) := by kernel_rfl
theorem C6_25_3_1 (x p : S) (o4 o5 o6 o8 o10 : Option S) : segC ([some x, some p, I 6, Z (fr (2, 5)), o4, o5, o6, some (.lst ([1, 1, 2, 2, 1].map .int)), o8, Z (frs [(0, 1), (1, 6), (1, 3), (1, 2), (2, 3), (5, 6), (1, 1)]), o10, none]) = .nx ([some x, some p, I 6, Z (fr (2, 5)), o4, o5, o6, Z (nums [1, 1, 2, 2, 1]), o8, Z (frs [(0, 1), (1, 6), (1, 3), (1, 2), (2, 3), (5, 6), (1, 1)]), Z (.bl false), none]) := by kernel_rfl
theorem C6_25_4_0 (x p : S) (o4 o5 o6 o8 o10 : Option S) : segC ([some x, some p, I 6, Z (fr (2, 5)), o4, o5, o6, some (.lst ([1, 1, 3, 1, 1].map .int)), o8, Z (frs [(0, 1), (8, 95), (4, 19), (2, 5), (10, 19), (68, 95), (1, 1)]), o10, none]) = .nx ([some x, some p, I 6, Z (fr (2, 5)), o4, o5, o6, Z (nums [1, 1, 3, 1, 1]), o8, Z (frs [(0, 1), (8, 95), (4, 19), (2, 5), (10, 19), (68, 95), (1, 1)]), Z (.bl true), none]) := by kernel_rfl
theorem C6_25_4_1 (x p : S) (o4 o5 o6 o8 o10 : Option S) : segC ([some x, some p, I 6, Z (fr (2, 5)), o4, o5, o6, some (.lst ([1, 1, 3, 1, 1].map .int)), o8, Z (frs [(0, 1), (1, 6), (1, 3), (1, 2), (2, 3), (5, 6), (1, 1)]), o10, none]) = .nx ([some x, some p, I 6, Z (fr (2, 5)), o4, o5, o6, Z (nums [1, 1, 3, 1, 1]), o8, Z (frs [(0, 1), (1, 6), (1, 3), (1, 2), (2, 3), (5, 6), (1, 1)]), Z (.bl false), none]) := by kernel_rfl
theorem C6_25_5_0 (x p : S) (o4 o5 o6 o8 o10 : Option S) : segC ([some x, some p, I 6, Z (fr (2, 5)), o4, o5, o6, some (.lst ([1, 1, 3, 2, 1].map .int)), o8, Z (frs [(0, 1), (8, 95), (4, 19), (2, 5), (10, 19), (68, 95), (1, 1)]), o10, none]) = .nx ([some x, some p, I 6, Z (fr (2, 5)), o4, o5, o6, Z (nums [1, 1, 3, 2, 1]), o8, Z (frs [(0, 1), (8, 95), (4, 19), (2, 5), (10, 19), (68, 95), (1, 1)]), Z (.bl true), none]) := by kernel_rfl
theorem C6_25_5_1 (x p : S) (o4 o5 o6 o8 o10 : Option S) : segC ([some x, some p, I 6, Z (fr (2, 5)), o4, o5, o6, some (.lst ([1, 1, 3, 2, 1].map .int)), o8, Z (frs [(0, 1), (1, 6), (1, 3), (1, 2), (2, 3), (5, 6), (1, 1)]), o10, none]) = .nx ([some x, some p, I 6, Z (fr (2, 5)), o4, o5, o6, Z (nums [1, 1, 3, 2, 1]), o8, Z (frs [(0, 1), (1, 6), (1, 3), (1, 2), (2, 3), (5, 6), (1, 1)]), Z (.bl false), none]) := by kernel_rfl
theorem C6_25_6_0 (x p : S) (o4 o5 o6 o8 o10 : Option S) : segC ([some x, some p, I 6, Z (fr (2, 5)), o4, o5, o6, some (.lst ([1, 2, 1, 1, 1].map .int)), o8, Z (frs [(0, 1), (8, 95), (4, 19), (2, 5), (10, 19), (68, 95), (1, 1)]), o10, none]) = .nx ([some x, some p, I 6, Z (fr (2, 5)), o4, o5, o6, Z (nums [1, 2, 1, 1, 1]), o8, Z (frs [(0, 1), (8, 95), (4, 19), (2, 5), (10, 19), (68, 95), (1, 1)]), Z (.bl false), none]) := by kernel_rfl
theorem C6_25_6_1 (x p : S) (o4 o5 o6 o8 o10 : Option S) : segC ([some x, some p, I 6, Z (fr (2, 5)), o4, o5, o6, some (.lst ([1, 2, 1, 1, 1].map .int)), o8, Z (frs [(0, 1), (1, 6), (1, 3), (1, 2), (2, 3), (5, 6), (1, 1)]), o10, none]) = .nx ([some x, some p, I 6, Z (fr (2, 5)), o4, o5, o6, Z (nums [1, 2, 1, 1, 1]), o8, Z (frs [(0, 1), (1, 6), (1, 3), (1, 2), (2, 3), (5, 6), (1, 1)]), Z (.bl false), none]) := by kernel_rfl
theorem C6_25_7_0 (x p : S) (o4 o5 o6 o8 o10 : Option S) : segC ([some x, some p, I 6, Z (fr (2, 5)), o4, o5, o6, some (.lst ([1, 2, 1, 2, 1].map .int)), o8, Z (frs [(0, 1), (8, 95), (4, 19), (2, 5), (10, 19), (68, 95), (1, 1)]), o10, none]) = .nx ([some x, some p, I 6, Z (fr (2, 5)), o4, o5, o6, Z (nums [1, 2, 1, 2, 1]), o8, Z (frs [(0, 1), (8, 95), (4, 19), (2, 5), (10, 19), (68, 95), (1, 1)]), Z (.bl false), none]) := by kernel_rfl
theorem C6_25_7_1 (x p : S) (o4 o5 o6 o8 o10 : Option S) : segC ([some x, some p, I 6, Z (fr (2, 5)), o4, o5, o6, some (.lst ([1, 2, 1, 2, 1].map .int)), o8, Z (frs [(0, 1), (1, 6), (1, 3), (1, 2), (2, 3), (5, 6), (1, 1)]), o10, none]) = .nx ([some x, some p, I 6, Z (fr (2, 5)), o4, o5, o6, Z (nums [1, 2, 1, 2, 1]), o8, Z (frs [(0, 1), (1, 6), (1, 3), (1, 2), (2, 3), (5, 6), (1, 1)]), Z (.bl false), none]) := by kernel_rfl
theorem C6_25_8_0 (x p : S) (o4 o5 o6 o8 o10 : Option S) : segC ([some x, some p, I 6, Z (fr (2, 5)), o4, o5, o6, some (.lst ([1, 2, 2, 1, 1].map .int)), o8, Z (frs [(0, 1), (8, 95), (4, 19), (2, 5), (10, 19), (68, 95), (1, 1)]), o10, none]) = .nx ([some x, some p, I 6, Z (fr (2, 5)), o4, o5, o6, Z (nums [1, 2, 2, 1, 1]), o8, Z (frs [(0, 1), (8, 95), (4, 19), (2, 5), (10, 19), (68, 95), (1, 1)]), Z (.bl false), none]) := by kernel_rfl
theorem C6_25_8_1 (x p : S) (o4 o5 o6 o8 o10 : Option S) : segC ([some x, some p, I 6, Z (fr (2, 5)), o4, o5, o6, some (.lst ([1, 2, 2, 1, 1].map .int)), o8, Z (frs [(0, 1), (1, 6), (1, 3), (1, 2), (2, 3), (5, 6), (1, 1)]), o10, none]) = .nx ([some x, some p, I 6, Z (fr (2, 5)), o4, o5, o6, Z (nums [1, 2, 2, 1, 1]), o8, Z (frs [(0, 1), (1, 6), (1, 3), (1, 2), (2, 3), (5, 6), (1, 1)]), Z (.bl false), none]) := by kernel_rfl
theorem C6_25_9_0 (x p : S) (o4 o5 o6 o8 o10 : Option S) : segC ([some x, some p, I 6, Z (fr (2, 5)), o4, o5, o6, some (.lst ([1, 2, 2, 2, 1].map .int)), o8, Z (frs [(0, 1), (8, 95), (4, 19), (2, 5), (10, 19), (68, 95), (1, 1)]), o10, none]) = .nx ([some x, some p, I 6, Z (fr (2, 5)), o4, o5, o6, Z (nums [1, 2, 2, 2, 1]), o8, Z (frs [(0, 1), (8, 95), (4, 19), (2, 5), (10, 19), (68, 95), (1, 1)]), Z (.bl false), none]) := by kernel_rfl
theorem C6_25_9_1 (x p : S) (o4 o5 o6 o8 o10 : Option S) : segC ([some x, some p, I 6, Z (fr (2, 5)), o4, o5, o6, some (.lst ([1, 2, 2, 2, 1].map .int)), o8, Z (frs [(0, 1), (1, 6), (1, 3), (1, 2), (2, 3), (5, 6), (1, 1)]), o10, none]) = .nx ([some x, some p, I 6, Z (fr (2, 5)), o4, o5, o6, Z (nums [1, 2, 2, 2, 1]), o8, Z (frs [(0, 1), (1, 6), (1, 3), (1, 2), (2, 3), (5, 6), (1, 1)]), Z (.bl false), none]) := by kernel_rfl
theorem C6_25_10_0 (x p : S) (o4 o5 o6 o8 o10 : Option S) : segC ([some x, some p, I 6, Z (fr (2, 5)), o4, o5, o6, some (.lst ([1, 2, 3, 1, 1].map .int)), o8, Z (frs [(0, 1), (8, 95), (4, 19), (2, 5), (10, 19), (68, 95), (1, 1)]), o10, none]) = .nx ([some x, some p, I 6, Z (fr (2, 5)), o4, o5, o6, Z (nums [1, 2, 3, 1, 1]), o8, Z (frs [(0, 1), (8, 95), (4, 19), (2, 5), (10, 19), (68, 95), (1, 1)]), Z (.bl true), none]) := by kernel_rfl
theorem C6_25_10_1 (x p : S) (o4 o5 o6 o8 o10 : Option S) : segC ([some x, some p, I 6, Z (fr (2, 5)), o4, o5, o6, some (.lst ([1, 2, 3, 1, 1].map .int)), o8, Z (frs [(0, 1), (1, 6), (1, 3), (1, 2), (2, 3), (5, 6), (1, 1)]), o10, none]) = .nx ([some x, some p, I 6, Z (fr (2, 5)), o4, o5, o6, Z (nums [1, 2, 3, 1, 1]), o8, Z (frs [(0, 1), (1, 6), (1, 3), (1, 2), (2, 3), (5, 6), (1, 1)]), Z (.bl false), none]) := by kernel_rfl
theorem C6_25_11_0 (x p : S) (o4 o5 o6 o8 o10 : Option S) : segC ([some x, some p, I 6, Z (fr (2, 5)), o4, o5, o6, some (.lst ([1, 2, 3, 2, 1].map .int)), o8, Z (frs [(0, 1), (8, 95), (4, 19), (2, 5), (10, 19), (68, 95), (1, 1)]), o10, none]) = .nx ([some x, some p, I 6, Z (fr (2, 5)), o4, o5, o6, Z (nums [1, 2, 3, 2, 1]), o8, Z (frs [(0, 1), (8, 95), (4, 19), (2, 5), (10, 19), (68, 95), (1, 1)]), Z (.bl true), none]) := by kernel_rfl
theorem C6_25_11_1 (x p : S) (o4 o5 o6 o8 o10 : Option S) : segC ([some x, some p, I 6, Z (fr (2, 5)), o4, o5, o6, some (.lst ([1, 2, 3, 2, 1].map .int)), o8, Z (frs [(0, 1), (1, 6), (1, 3), (1, 2), (2, 3), (5, 6), (1, 1)]), o10, none]) = .nx ([some x, some p, I 6, Z (fr (2, 5)), o4, o5, o6, Z (nums [1, 2, 3, 2, 1]), o8, Z (frs [(0, 1), (1, 6), (1, 3), (1, 2), (2, 3), (5, 6), (1, 1)]), Z (.bl false), none]) := by kernel_rfl
theorem D6_25 (x p : S) (o4 o6 o7 o8 o9 o10 : Option S) : segD ([some x, some p, I 6, Z (fr (2, 5)), o4, Z (frs [(0, 1), (8, 95), (4, 19), (2, 5), (10, 19), (68, 95), (1, 1)]), o6, o7, o8, o9, o10, none]) = .rt (.fz (.bl true)) ([some x, some p, I 6, Z (fr (2, 5)), o4, Z (frs [(0, 1), (8, 95), (4, 19), (2, 5), (10, 19), (68, 95), (1, 1)]), o6, o7, o8, o9, o10, none]) := by kernel_rfl
theorem A6_34 (x p : S) : segA ([some x, some p, I 6, Z (fr (3, 4)), none, none, none, none, none, none, none, none]) = .nx ([some x, some p, I 6, Z (fr (3, 4)), Z (nums [1, 1, 1, 1, 1]), Z (frs [(0, 1), (243, 364), (81, 91), (27, 28), (90, 91), (363, 364), (1, 1)]), none, none, none, none, none, none]) := by kernel_rfl
theorem B6_34_0 (x p : S) (o6 o9 : Option S) : l8b ([some x, some p, I 6, Z (fr (3, 4)), Z (nums [1, 1, 1, 1, 1]), Z (frs [(0, 1), (243, 364), (81, 91), (27, 28), (90, 91), (363, 364), (1, 1)]), o6, Z (nums [1, 1, 1, 1, 1]), none, o9, none, none]) = .nx ([some x, some p, I 6, Z (fr (3, 4)), Z (nums [1, 1, 1, 1, 1]), Z (frs [(0, 1), (243, 364), (81, 91), (27, 28), (90, 91), (363, 364), (1, 1)]), o6, Z (nums [1, 1, 1, 1, 1]), none, Z (frs [(0, 1), (243, 364), (81, 91), (27, 28), (90, 91), (363, 364), (1, 1)]), none, none]) := by kernel_rfl
theorem B6_34_1 (x p : S) (o6 o9 : Option S) : l8b ([some x, some p, I 6, Z (fr (3, 4)), Z (nums [1, 1, 1, 1, 1]), Z (frs [(0, 1), (243, 364), (81, 91), (27, 28), (90, 91), (363, 364), (1, 1)]), o6, Z (nums [1, 1, 1, 2, 1]), none, o9, none, none]) = .nx ([some x, some p, I 6, Z (fr (3, 4)), Z (nums [1, 1, 1, 1, 1]), Z (frs [(0, 1), (243, 364), (81, 91), (27, 28), (90, 91), (363, 364), (1, 1)]), o6, Z (nums [1, 1, 1, 2, 1]), none, Z (frs [(0, 1), (81, 124), (27, 31), (117, 124), (30, 31), (123, 124), (1, 1)]), none, none]) := by kernel_rfl
theorem B6_34_2 (x p : S) (o6 o9 : Option S) : l8b ([some x, some p, I 6, Z (fr (3, 4)), Z (nums [1, 1, 1, 1, 1]), Z (frs [(0, 1), (243, 364), (81, 91), (27, 28), (90, 91), (363, 364), (1, 1)]), o6, Z (nums [1, 1, 2, 1, 1]), none, o9, none, none]) = .nx ([some x, some p, I 6, Z (fr (3, 4)), Z (nums [1, 1, 1, 1, 1]), Z (frs [(0, 1), (243, 364), (81, 91), (27, 28), (90, 91), (363, 364), (1, 1)]), o6, Z (nums [1, 1, 2, 1, 1]), none, Z (frs [(0, 1), (81, 130), (54, 65), (9, 10), (63, 65), (129, 130), (1, 1)]), none, none]) := by kernel_rfl
theorem B6_34_3 (x p : S) (o6 o9 : Option S) : l8b ([some x, some p, I 6, Z (fr (3, 4)), Z (nums [1, 1, 1, 1, 1]), Z (frs [(0, 1), (243, 364), (81, 91), (27, 28), (90, 91), (363, 364), (1, 1)]), o6, Z (nums [1, 1, 2, 2, 1]), none, o9, none, none]) = .nx ([some x, some p, I 6, Z (fr (3, 4)), Z (nums [1, 1, 1, 1, 1]), Z (frs [(0, 1), (243, 364), (81, 91), (27, 28), (90, 91), (363, 364), (1, 1)]), o6, Z (nums [1, 1, 2, 2, 1]), none, Z (frs [(0, 1), (405, 652), (135, 163), (585, 652), (156, 163), (645, 652), (1, 1)]), none, none]) := by kernel_rfl
theorem B6_34_4 (x p : S) (o6 o9 : Option S) : l8b ([some x, some p, I 6, Z (fr (3, 4)), Z (nums [1, 1, 1, 1, 1]), Z (frs [(0, 1), (243, 364), (81, 91), (27, 28), (90, 91), (363, 364), (1, 1)]), o6, Z (nums [1, 1, 3, 1, 1]), none, o9, none, none]) = .nx ([some x, some p, I 6, Z (fr (3, 4)), Z (nums [1, 1, 1, 1, 1]), Z (frs [(0, 1), (243, 364), (81, 91), (27, 28), (90, 91), (363, 364), (1, 1)]), o6, Z (nums [1, 1, 3, 1, 1]), none, Z (frs [(0, 1), (27, 52), (9, 13), (3, 4), (12, 13), (51, 52), (1, 1)]), none, none]) := by kernel_rfl
theorem B6_34_5 (x p : S) (o6 o9 : Option S) : l8b ([some x, some p, I 6, Z (fr (3, 4)), Z (nums [1, 1, 1, 1, 1]), Z (frs [(0, 1), (243, 364), (81, 91), (27, 28), (90, 91), (363, 364), (1, 1)]), o6, Z (nums [1, 1, 3, 2, 1]), none, o9, none, none]) = .nx ([some x, some p, I 6, Z (fr (3, 4)), Z (nums [1, 1, 1, 1, 1]), Z (frs [(0, 1), (243, 364), (81, 91), (27, 28), (90, 91), (363, 364), (1, 1)]), o6, Z (nums [1, 1, 3, 2, 1]), none, Z (frs [(0, 1), (27, 52), (9, 13), (3, 4), (12, 13), (51, 52), (1, 1)]), none, none]) := by kernel_rfl
theorem B6_34_6 (x p : S) (o6 o9 : Option S) : l8b ([some x, some p, I 6, Z (fr (3, 4)), Z (nums [1, 1, 1, 1, 1]), Z (frs [(0, 1), (243, 364), (81, 91), (27, 28), (90, 91), (363, 364), (1, 1)]), o6, Z (nums [1, 2, 1, 1, 1]), none, o9, none, none]) = .nx ([some x, some p, I 6, Z (fr (3, 4)), Z (nums [1, 1, 1, 1, 1]), Z (frs [(0, 1), (243, 364), (81, 91), (27, 28), (90, 91), (363, 364), (1, 1)]), o6, Z (nums [1, 2, 1, 1, 1]), none, Z (frs [(0, 1), (81, 148), (27, 37), (135, 148), (36, 37), (147, 148), (1, 1)]), none, none]) := by kernel_rfl
theorem B6_34_7 (x p : S) (o6 o9 : Option S) : l8b ([some x, some p, I 6, Z (fr (3, 4)), Z (nums [1, 1, 1, 1, 1]), Z (frs [(0, 1), (243, 364), (81, 91), (27, 28), (90, 91), (363, 364), (1, 1)]), o6, Z (nums [1, 2, 1, 2, 1]), none, o9, none, none]) = .nx ([some x, some p, I 6, Z (fr (3, 4)), Z (nums [1, 1, 1, 1, 1]), Z (frs [(0, 1), (243, 364), (81, 91), (27, 28), (90, 91), (363, 364), (1, 1)]), o6, Z (nums [1, 2, 1, 2, 1]), none, Z (frs [(0, 1), (27, 52), (9, 13), (45, 52), (12, 13), (51, 52), (1, 1)]), none, none]) := by kernel_rfl
theorem B6_34_8 (x p : S) (o6 o9 : Option S) : l8b ([some x, some p, I 6, Z (fr (3, 4)), Z (nums [1, 1, 1, 1, 1]), Z (frs [(0, 1), (243, 364), (81, 91), (27, 28), (90, 91), (363, 364), (1, 1)]), o6, Z (nums [1, 2, 2, 1, 1]), none, o9, none, none]) = .nx ([some x, some p, I 6, Z (fr (3, 4)), Z (nums [1, 1, 1, 1, 1]), Z (frs [(0, 1), (243, 364), (81, 91), (27, 28), (90, 91), (363, 364), (1, 1)]), o6, Z (nums [1, 2, 2, 1, 1]), none, Z (frs [(0, 1), (405, 748), (135, 187), (657, 748), (180, 187), (741, 748), (1, 1)]), none, none]) := by kernel_rfl
theorem B6_34_9 (x p : S) (o6 o9 : Option S) : l8b ([some x, some p, I 6, Z (fr (3, 4)), Z (nums [1, 1, 1, 1, 1]), Z (frs [(0, 1), (243, 364), (81, 91), (27, 28), (90, 91), (363, 364), (1, 1)]), o6, Z (nums [1, 2, 2, 2, 1]), none, o9, none, none]) = .nx ([some x, some p, I 6, Z (fr (3, 4)), Z (nums [1, 1, 1, 1, 1]), Z (frs [(0, 1), (243, 364), (81, 91), (27, 28), (90, 91), (363, 364), (1, 1)]), o6, Z (nums [1, 2, 2, 2, 1]), none, Z (frs [(0, 1), (27, 52), (9, 13), (45, 52), (12, 13), (51, 52), (1, 1)]), none, none]) := by kernel_rfl
theorem B6_34_10 (x p : S) (o6 o9 : Option S) : l8b ([some x, some p, I 6, Z (fr (3, 4)), Z (nums [1, 1, 1, 1, 1]), Z (frs [(0, 1), (243, 364), (81, 91), (27, 28), (90, 91), (363, 364), (1, 1)]), o6, Z (nums [1, 2, 3, 1, 1]), none, o9, none, none]) = .nx ([some x, some p, I 6, Z (fr (3, 4)), Z (nums [1, 1, 1, 1, 1]), Z (frs [(0, 1), (243, 364), (81, 91), (27, 28), (90, 91), (363, 364), (1, 1)]), o6, Z (nums [1, 2, 3, 1, 1]), none, Z (frs [(0, 1), (27, 52), (9, 13), (3, 4), (12, 13), (51, 52), (1, 1)]), none, none]) := by kernel_rfl
theorem B6_34_11 (x p : S) (o6 o9 : Option S) : l8b ([some x, some p, I 6, Z (fr (3, 4)), Z (nums [1, 1, 1, 1, 1]), Z (frs [(0, 1), (243, 364), (81, 91), (27, 28), (90, 91), (363, 364), (1, 1)]), o6, Z (nums [1, 2, 3, 2, 1]), none, o9, none, none]) = .nx ([some x, some p, I 6, Z (fr (3, 4)), Z (nums [1, 1, 1, 1, 1]), Z (frs [(0, 1), (243, 364), (81, 91), (27, 28), (90, 91), (363, 364), (1, 1)]), o6, Z (nums [1, 2, 3, 2, 1]), none, Z (frs [(0, 1), (27, 52), (9, 13), (3, 4), (12, 13), (51, 52), (1, 1)]), none, none]) := by kernel_rfl
theorem L6_34 (x p : S) (o4 o6 o7 o8 o9 o10 : Option S) : t9 ([some x, some p, I 6, Z (fr (3, 4)), o4, Z (frs [(0, 1), (243, 364), (81, 91), (27, 28), (90, 91), (363, 364), (1, 1)]), o6, o7, o8, o9, o10, none]) = .ok (.lst [frs [(0, 1), (243, 364), (81, 91), (27, 28), (90, 91), (363, 364), (1, 1)], frs [(0, 1), (1, 6), (1, 3), (1, 2), (2, 3), (5, 6), (1, 1)]], [some x, some p, I 6, Z (fr (3, 4)), o4, Z (frs [(0, 1), (243, 364), (81, 91), (27, 28), (90, 91), (363, 364), (1, 1)]), o6, o7, o8, o9, o10, none]) := by kernel_rfl
theorem C6_34_0_0 (x p : S) (o4 o5 o6 o8 o10 : Option S) : segC ([some x, some p, I 6, Z (fr (3, 4)), o4, o5, o6, some (.lst ([1, 1, 1, 1, 1].map .int)), o8, Z (frs [(0, 1), (243, 364), (81, 91), (27, 28), (90, 91), (363, 364), (1, 1)]), o10, none]) = .nx ([some x, some p, I 6, Z (fr (3, 4)), o4, o5, o6, Z (nums [1, 1, 1, 1, 1]), o8, Z (frs [(0, 1), (243, 364), (81, 91), (27, 28), (90, 91), (363, 364), (1, 1)]), Z (.bl true), none]) := by kernel_rfl
theorem C6_34_0_1 (x p : S) (o4 o5 o6 o8 o10 : Option S) : segC ([some x, some p, I 6, Z (fr (3, 4)), o4, o5, o6, some (.lst ([1, 1, 1, 1, 1].map .int)), o8, Z (frs [(0, 1), (1, 6), (1, 3), (1, 2), (2, 3), (5, 6), (1, 1)]), o10, none]) = .nx ([some x, some p, I 6, Z (fr (3, 4)), o4, o5, o6, Z (nums [1, 1, 1, 1, 1]), o8, Z (frs [(0, 1), (1, 6), (1, 3), (1, 2), (2, 3), (5, 6), (1, 1)]), Z (.bl false), none]) := by kernel_rfl
theorem C6_34_1_0 (x p : S) (o4 o5 o6 o8 o10 : Option S) : segC ([some x, some p, I 6, Z (fr (3, 4)), o4, o5, o6, some (.lst ([1, 1, 1, 2, 1].map .int)), o8, Z (frs [(0, 1), (243, 364), (81, 91), (27, 28), (90, 91), (363, 364), (1, 1)]), o10, none]) = .nx ([some x, some p, I 6, Z (fr (3, 4)), o4, o5, o6, Z (nums [1, 1, 1, 2, 1]), o8, Z (frs [(0, 1), (243, 364), (81, 91), (27, 28), (90, 91), (363, 364), (1, 1)]), Z (.bl false), none]) := by kernel_rfl
theorem C6_34_1_1 (x p : S) (o4 o5 o6 o8 o10 : Option S) : segC ([some x, some p, I 6, Z (fr (3, 4)), o4, o5, o6, some (.lst ([1, 1, 1, 2, 1].map .int)), o8, Z (frs [(0, 1), (1, 6), (1, 3), (1, 2), (2, 3), (5, 6), (1, 1)]), o10, none]) = .nx ([some x, some p, I 6, Z (fr (3, 4)), o4, o5, o6, Z (nums [1, 1, 1, 2, 1]), o8, Z (frs [(0, 1), (1, 6), (1, 3), (1, 2), (2, 3), (5, 6), (1, 1)]), Z (.bl false), none]) := by kernel_rfl
theorem C6_34_2_0 (x p : S) (o4 o5 o6 o8 o10 : Option S) : segC ([some x, some p, I 6, Z (fr (3, 4)), o4, o5, o6, some (.lst ([1, 1, 2, 1, 1].map .int)), o8, Z (frs [(0, 1), (243, 364), (81, 91), (27, 28), (90, 91), (363, 364), (1, 1)]), o10, none]) = .nx ([some x, some p, I 6, Z (fr (3, 4)), o4, o5, o6, Z (nums [1, 1, 2, 1, 1]), o8, Z (frs [(0, 1), (243, 364), (81, 91), (27, 28), (90, 91), (363, 364), (1, 1)]), Z (.bl false), none]) := by kernel_rfl
theorem C6_34_2_1 (x p : S) (o4 o5 o6 o8 o10 : Option S) : segC ([some x, some p, I 6, Z (fr (3, 4)), o4, o5, o6, some (.lst ([1, 1, 2, 1, 1].map .int)), o8, Z (frs [(0, 1), (1, 6), (1, 3), (1, 2), (2, 3), (5, 6), (1, 1)]), o10, none]) = .nx ([some x, some p, I 6, Z (fr (3, 4)), o4, o5, o6, Z (nums [1, 1, 2, 1, 1]), o8, Z (frs [(0, 1), (1, 6), (1, 3), (1, 2), (2, 3), (5, 6), (1, 1)]), Z (.bl false), none]) := by kernel_rfl
theorem C6_34_3_0 (x p : S) (o4 o5 o6 o8 o10 : Option S) : segC ([some x, some p, I 6, Z (fr (3, 4)), o4, o5, o6, some (.lst ([1, 1, 2, 2, 1].map .int)), o8, Z (frs [(0, 1), (243, 364), (81, 91), (27, 28), (90, 91), (363, 364), (1, 1)]), o10, none]) = .nx ([some x, some p, I 6, Z (fr (3, 4)), o4, o5, o6, Z (nums [1, 1, 2, 2, 1]), o8, Z (frs [(0, 1), (243, 364), (81, 91), (27, 28), (90, 91), (363, 364), (1, 1)]), Z (.bl false), none]) := by kernel_rfl
theorem C6_34_3_1 (x p : S) (o4 o5 o6 o8 o10 : Option S) : segC ([some x, some p, I 6, Z (fr (3, 4)), o4, o5, o6, some (.lst ([1, 1, 2, 2, 1].map .int)), o8, Z (frs [(0, 1), (1, 6), (1, 3), (1, 2), (2, 3), (5, 6), (1, 1)]), o10, none]) = .nx ([some x, some p, I 6, Z (fr (3, 4)), o4, o5, o6, Z (nums [1, 1, 2, 2, 1]), o8, Z (frs [(0, 1), (1, 6), (1, 3), (1, 2), (2, 3), (5, 6), (1, 1)]), Z (.bl false), none]) := by kernel_rfl
theorem C6_34_4_0 (x p : S) (o4 o5 o6 o8 o10 : Option S) : segC ([some x, some p, I 6, Z (fr (3, 4)), o4, o5, o6, some (.lst ([1, 1, 3, 1, 1].map .int)), o8, Z (frs [(0, 1), (243, 364), (81, 91), (27, 28), (90, 91), (363, 364), (1, 1)]), o10, none]) = .nx ([some x, some p, I 6, Z (fr (3, 4)), o4, o5, o6, Z (nums [1, 1, 3, 1, 1]), o8, Z (frs [(0, 1), (243, 364), (81, 91), (27, 28), (90, 91), (363, 364), (1, 1)]), Z (.bl false), none]) := by kernel_rfl
theorem C6_34_4_1 (x p : S) (o4 o5 o6 o8 o10 : Option S) : segC ([some x, some p, I 6, Z (fr (3, 4)), o4, o5, o6, some (.lst ([1, 1, 3, 1, 1].map .int)), o8, Z (frs [(0, 1), (1, 6), (1, 3), (1, 2), (2, 3), (5, 6), (1, 1)]), o10, none]) = .nx ([some x, some p, I 6, Z (fr (3, 4)), o4, o5, o6, Z (nums [1, 1, 3, 1, 1]), o8, Z (frs [(0, 1), (1, 6), (1, 3), (1, 2), (2, 3), (5, 6), (1, 1)]), Z (.bl false), none]) := by kernel_rfl
theorem C6_34_5_0 (x p : S) (o4 o5 o6 o8 o10 : Option S) : segC ([some x, some p, I 6, Z (fr (3, 4)), o4, o5, o6, some (.lst ([1, 1, 3, 2, 1].map .int)), o8, Z (frs [(0, 1), (243, 364), (81, 91), (27, 28), (90, 91), (363, 364), (1, 1)]), o10, none]) = .nx ([some x, some p, I 6, Z (fr (3, 4)), o4, o5, o6, Z (nums [1, 1, 3, 2, 1]), o8, Z (frs [(0, 1), (243, 364), (81, 91), (27, 28), (90, 91), (363, 364), (1, 1)]), Z (.bl false), none]) := by kernel_rfl
theorem C6_34_5_1 (x p : S) (o4 o5 o6 o8 o10 : Option S) : segC ([some x, some p, I 6, Z (fr (3, 4)), o4, o5, o6, some (.lst ([1, 1, 3, 2, 1].map .int)), o8, Z (frs [(0, 1), (1, 6), (1, 3), (1, 2), (2, 3), (5, 6), (1, 1)]), o10, none]) = .nx ([some x, some p, I 6, Z (fr (3, 4)), o4, o5, o6, Z (nums [1, 1, 3, 2, 1]), o8, Z (frs [(0, 1), (1, 6), (1, 3), (1, 2), (2, 3), (5, 6), (1, 1)]), Z (.bl false), none]) := by kernel_rfl
theorem C6_34_6_0 (x p : S) (o4 o5 o6 o8 o10 : Option S) : segC ([some x, some p, I 6, Z (fr (3, 4)), o4, o5, o6, some (.lst ([1, 2, 1, 1, 1].map .int)), o8, Z (frs [(0, 1), (243, 364), (81, 91), (27, 28), (90, 91), (363, 364), (1, 1)]), o10, none]) = .nx ([some x, some p, I 6, Z (fr (3, 4)), o4, o5, o6, Z (nums [1, 2, 1, 1, 1]), o8, Z (frs [(0, 1), (243, 364), (81, 91), (27, 28), (90, 91), (363, 364), (1, 1)]), Z (.bl false), none]) := by kernel_rfl
theorem C6_34_6_1 (x p : S) (o4 o5 o6 o8 o10 : Option S) : segC ([some x, some p, I 6, Z (fr (3, 4)), o4, o5, o6, some (.lst ([1, 2, 1, 1, 1].map .int)), o8, Z (frs [(0, 1), (1, 6), (1, 3), (1, 2), (2, 3), (5, 6), (1, 1)]), o10, none]) = .nx ([some x, some p, I 6, Z (fr (3, 4)), o4, o5, o6, Z (nums [1, 2, 1, 1, 1]), o8, Z (frs [(0, 1), (1, 6), (1, 3), (1, 2), (2, 3), (5, 6), (1, 1)]), Z (.bl false), none]) := by kernel_rfl
theorem C6_34_7_0 (x p : S) (o4 o5 o6 o8 o10 : Option S) : segC ([some x, some p, I 6, Z (fr (3, 4)), o4, o5, o6, some (.lst ([1, 2, 1, 2, 1].map .int)), o8, Z (frs [(0, 1), (243, 364), (81, 91), (27, 28), (90, 91), (363, 364), (1, 1)]), o10, none]) = .nx ([some x, some p, I 6, Z (fr (3, 4)), o4, o5, o6, Z (nums [1, 2, 1, 2, 1]), o8, Z (frs [(0, 1), (243, 364), (81, 91), (27, 28), (90, 91), (363, 364), (1, 1)]), Z (.bl false), none]) := by kernel_rfl
theorem C6_34_7_1 (x p : S) (o4 o5 o6 o8 o10 : Option S) : segC ([some x, some p, I 6, Z (fr (3, 4)), o4, o5, o6, some (.lst ([1, 2, 1, 2, 1].map .int)), o8, Z (frs [(0, 1), (1, 6), (1, 3), (1, 2), (2, 3), (5, 6), (1, 1)]), o10, none]) = .nx ([some x, some p, I 6, Z (fr (3, 4)), o4, o5, o6, Z (nums [1, 2, 1, 2, 1]), o8, Z (frs [(0, 1), (1, 6), (1, 3), (1, 2), (2, 3), (5, 6), (1, 1)]), Z (.bl false), none]) := by kernel_rfl
theorem C6_34_8_0 (x p : S) (o4 o5 o6 o8 o10 : Option S) : segC ([some x, some p, I 6, Z (fr (3, 4)), o4, o5, o6, some (.lst ([1, 2, 2, 1, 1].map .int)), o8, Z (frs [(0, 1), (243, 364), (81, 91), (27, 28), (90, 91), (363, 364), (1, 1)]), o10, none]) = .nx ([some x, some p, I 6, Z (fr (3, 4)), o4, o5, o6, Z (nums [1, 2, 2, 1, 1]), o8, Z (frs [(0, 1), (243, 364), (81, 91), (27, 28), (90, 91), (363, 364), (1, 1)]), Z (.bl false), none]) := by kernel_rfl
theorem C6_34_8_1 (x p : S) (o4 o5 o6 o8 o10 : Option S) : segC ([some x, some p, I 6, Z (fr (3, 4)), o4, o5, o6, some (.lst ([1, 2, 2, 1, 1].map .int)), o8, Z (frs [(0, 1), (1, 6), (1, 3), (1, 2), (2, 3), (5, 6), (1, 1)]), o10, none]) = .nx ([some x, some p, I 6, Z (fr (3, 4)), o4, o5, o6, Z (nums [1, 2, 2, 1, 1]), o8, Z (frs [(0, 1), (1, 6), (1, 3), (1, 2), (2, 3), (5, 6), (1, 1)]), Z (.bl false), none]) := by kernel_rfl
theorem C6_34_9_0 (x p : S) (o4 o5 o6 o8 o10 : Option S) : segC ([some x, some p, I 6, Z (fr (3, 4)), o4, o5, o6, some (.lst ([1, 2, 2, 2, 1].map .int)), o8, Z (frs [(0, 1), (243, 364), (81, 91), (27, 28), (90, 91), (363, 364), (1, 1)]), o10, none]) = .nx ([some x, some p, I 6, Z (fr (3, 4)), o4, o5, o6, Z (nums [1, 2, 2, 2, 1]), o8, Z (frs [(0, 1), (243, 364), (81, 91), (27, 28), (90, 91), (363, 364), (1, 1)]), Z (.bl false), none]) := by kernel_rfl
theorem C6_34_9_1 (x p : S) (o4 o5 o6 o8 o10 : Option S) : segC ([some x, some p, I 6, Z (fr (3, 4)), o4, o5, o6, some (.lst ([1, 2, 2, 2, 1].map .int)), o8, Z (frs [(0, 1), (1, 6), (1, 3), (1, 2), (2, 3), (5, 6), (1, 1)]), o10, none]) = .nx ([some x, some p, I 6, Z (fr (3, 4)), o4, o5, o6, Z (nums [1, 2, 2, 2, 1]), o8, Z (frs [(0, 1), (1, 6), (1, 3), (1, 2), (2, 3), (5, 6), (1, 1)]), Z (.bl false), none]) := by kernel_rfl
theorem C6_34_10_0 (x p : S) (o4 o5 o6 o8 o10 : Option S) : segC ([some x, some p, I 6, Z (fr (3, 4)), o4, o5, o6, some (.lst ([1, 2, 3, 1, 1].map .int)), o8, Z (frs [(0, 1), (243, 364), (81, 91), (27, 28), (90, 91), (363, 364), (1, 1)]), o10, none]) = .nx ([some x, some p, I 6, Z (fr (3, 4)), o4, o5, o6, Z (nums [1, 2, 3, 1, 1]), o8, Z (frs [(0, 1), (243, 364), (81, 91), (27, 28), (90, 91), (363, 364), (1, 1)]), Z (.bl false), none]) := by kernel_rfl
theorem C6_34_10_1 (x p : S) (o4 o5 o6 o8 o10 : Option S) : segC ([some x, some p, I 6, Z (fr (3, 4)), o4, o5, o6, some (.lst ([1, 2, 3, 1, 1].map .int)), o8, Z (frs [(0, 1), (1, 6), (1, 3), (1, 2), (2, 3), (5, 6), (1, 1)]), o10, none]) = .nx ([some x, some p, I 6, Z (fr (3, 4)), o4, o5, o6, Z (nums [1, 2, 3, 1, 1]), o8, Z (frs [(0, 1), (1, 6), (1, 3), (1, 2), (2, 3), (5, 6), (1, 1)]), Z (.bl false), none]) := by kernel_rfl
theorem C6_34_11_0 (x p : S) (o4 o5 o6 o8 o10 : Option S) : segC ([some x, some p, I 6, Z (fr (3, 4)), o4, o5, o6, some (.lst ([1, 2, 3, 2, 1].map .int)), o8, Z (frs [(0, 1), (243, 364), (81, 91), (27, 28), (90, 91), (363, 364), (1, 1)]), o10, none]) = .nx ([some x, some p, I 6, Z (fr (3, 4)), o4, o5, o6, Z (nums [1, 2, 3, 2, 1]), o8, Z (frs [(0, 1), (243, 364), (81, 91), (27, 28), (90, 91), (363, 364), (1, 1)]), Z (.bl false), none]) := by kernel_rfl
theorem C6_34_11_1 (x p : S) (o4 o5 o6 o8 o10 : Option S) : segC ([some x, some p, I 6, Z (fr (3, 4)), o4, o5, o6, some (.lst ([1, 2, 3, 2, 1].map .int)), o8, Z (frs [(0, 1), (1, 6), (1, 3), (1, 2), (2, 3), (5, 6), (1, 1)]), o10, none]) = .nx ([some x, some p, I 6, Z (fr (3, 4)), o4, o5, o6, Z (nums [1, 2, 3, 2, 1]), o8, Z (frs [(0, 1), (1, 6), (1, 3), (1, 2), (2, 3), (5, 6), (1, 1)]), Z (.bl false), none]) := by kernel_rfl
theorem D6_34 (x p : S) (o4 o6 o7 o8 o9 o10 : Option S) : segD ([some x, some p, I 6, Z (fr (3, 4)), o4, Z (frs [(0, 1), (243, 364), (81, 91), (27, 28), (90, 91), (363, 364), (1, 1)]), o6, o7, o8, o9, o10, none]) = .rt (.fz (.bl true)) ([some x, some p, I 6, Z (fr (3, 4)), o4, Z (frs [(0, 1), (243, 364), (81, 91), (27, 28), (90, 91), (363, 364), (1, 1)]), o6, o7, o8, o9, o10, none]) := by kernel_rfl
end K61
namespace K61
open PySem PySem.Spec VS
theorem mdraw_eq : m__law_draw = c_draw := rfl
theorem mpick_eq : m__law_pick = c_pick := rfl
theorem mpool_eq : m__law_pool = c_pool := rfl
def isPlan (a : Int) (q : List Int) : Prop := (q.length : Int) = a - 1 ∧ ∀ i (h : i < q.length), 1 ≤ q[i] ∧ q[i] ≤ i + 1 ∧ q[i] ≤ a - (i + 1)
theorem plan_ok {n : Nat} {p : S} {a : Int} (hp : PoolOk n p) (hn : n < 2 ^ 50) (ha : 2 ≤ a ∧ a ≤ 6) :
    ∃ (q : List Int) (p' : S), isPlan a q ∧ PoolOk (n + 5) p' ∧ m__law_plan [p, .fz (.int a)] = .ok (.lst (q.map .int)) [p'] := by
  have r1 : Rg 1 := rg_of (by omega) (by omega)
  have ra : Rg a := rg_of (by omega) (by omega)
  have hpz := hp.isFz
  obtain ⟨acc, ρ', e, q, p', x, rfl, rfl, h1, h2, h3⟩ := lc_pre (own := [2]) (a := aName 2) (b := bYes) (t := v2 dAdd (vQ (qC (.int 1))) (vCall [0] (fills [] m__law_draw) (aSl 0 (aFz (oV (o2 dMin2 (qVar 2) (oQ (o2 dSub (qVar 1) (qVar 2))))) aNo))))
    (J := fun l acc ρ => ∃ (q : List Int) (p' : S) (x : Option S), acc = q.map .int ∧ ρ = [some p', some (.fz (.int a)), x] ∧ q.length = l.length ∧ PoolOk (n + l.length) p' ∧ ∀ i (h : i < q.length), 1 ≤ q[i] ∧ q[i] ≤ i + 1 ∧ q[i] ≤ a - (i + 1))
    (all := rng 1 a) (ds := rng 1 a) (done := []) (acc := []) (ρ := [some p, some (.fz (.int a)), none]) rfl ⟨[], p, none, rfl, rfl, rfl, hp, fun i h => absurd h (Nat.not_lt_zero i)⟩ (by rw [rng_len, sizeLine_eq, List.length_nil]; omega)
    fun l d r acc ρ hall ⟨q, p', x, h1, h2, h3, h4, h5⟩ => by
      obtain ⟨rfl, hlt⟩ := rng_split hall
      subst h1 h2
      generalize hl : l.length = m at *
      have hmn : (if a - (1 + (m : Int)) < 1 + (m : Int) then a - (1 + (m : Int)) else 1 + (m : Int)) = min (1 + (m : Int)) (a - (1 + m)) := by split <;> omega
      refine ⟨_, rfl, true, _, rfl, .inr ⟨rfl, ?_⟩⟩
      obtain ⟨rr, p2, g1, g2, g3, g4⟩ := draw_v (n := n + m) (k := 0) (ρ := [some p', some (.fz (.int a)), some (.fz (.int (1 + (m : Int))))]) (ρ1 := [some p', some (.fz (.int a)), some (.fz (.int (1 + (m : Int))))]) (T := oV (o2 dMin2 (qVar 2) (oQ (o2 dSub (qVar 1) (qVar 2))))) (p := p') (p0 := p') (many := min (1 + (m : Int)) (a - (1 + m))) rfl (by simp only [fnSem, begin, e_thok, e_thexc, e_stok, e_stexc, e_onx, e_ort, e_obk, e_oct, e_oexc, e_rOv, e_rOn, e_qOv, e_qOn, e_rS, e_rB, e_rV, e_rM, e_qS, e_oV, e_oQ, e_vQ, e_qVar, e_qC, e_vVar, e_vMove, e_o1, e_o2, e_v1, e_v2, e_bind, e_frz, e_frl, e_seq, e_set, e_ret, e_drop, e_pass, e_brk, e_cnt, e_raise, e_raise1, e_if, e_bC, e_bV, e_qT, e_bQ, e_bAnd, e_bOr, e_bNot, e_bYes, e_bl, e_trub, e_trui, e_trul, e_trut, e_trus, e_trun, e_int?, e_vIf, e_le, e_lt, e_ge, e_gt, e_add, e_sub, e_neg, e_abs, e_int, e_lenl, e_lent, e_lens, e_listl, e_listt, e_lists, e_min2, e_max2, e_ix, e_ixt, atI_nat, atI_0, atI_1, atI_2, atI_3, atI_4, e_mapv, e_pO, e_pP, e_sPut, e_aNo, e_aFz, e_aS, e_aSl, e_gS, e_argN, e_argF, e_argL, e_vCall, e_cA, e_cFok, e_cFexc, e_fills, e_qNo, e_qA, e_qAnd, e_oTup, e_oLst, e_tT, e_tL, e_sz, e_szl, e_vLst, e_vTup, e_dL, e_dT, e_allN, e_allC, e_mR, e_mL, e_mS, e_vLm, e_lA, e_lO, e_vAnd, e_vOrB, e_chA, e_oCh, e_sFor, e_iS, e_iSeq, e_itl, e_itt, e_its, e_iR, e_iRng0, e_forN, e_aName, e_aTup, e_aCons, e_aNil, e_vLc, e_vLc2, e_lR, e_wpN, e_wpC, e_rstF, e_rstL, e_rstN, e_rsN, e_rsC, Option.map_some, Option.map_none, List.getElem?_cons_zero, List.getElem?_cons_succ, List.set_cons_zero, List.set_cons_succ, List.map_cons, List.map_nil, List.cons_append, List.nil_append, List.append_nil, List.length_cons, List.length_nil, List.replicate, Nat.reduceAdd, Nat.reduceSub, if_true, if_false, ite_true, ite_false, decide_true, decide_false, Bool.false_eq_true, Bool.not_true, Bool.not_false, decide_eq_true_eq, decide_not, Bool.not_eq_true', decide_eq_false_iff_not, e_isaI, e_isaB, e_isaS, e_isaL, e_isaT, e_isaN, e_isa2I, e_isa2B, e_isa2S, e_isa2L, e_isa2T, e_isNnon, e_isNint, e_isNbl, e_isNstr, e_isNlst, e_isNtup, e_isB, e_eqI, e_neI, e_pow18, isaB, String.reduceBEq, Bool.or_false, Bool.false_or, Bool.and_false, Bool.false_and, Bool.true_and, Bool.and_true, Bool.or_true, Bool.true_or, Bool.xor_false, Bool.false_xor, Bool.xor_true, Bool.true_xor, e_mulS, e_divS, e_mod, e_append, e_put, e_put1, e_put2, e_put3, e_put4, e_frN, e_frR, e_frX, e_frE, e_frO, e_outN, e_outC, e_ou, e_notB, e_notL, e_slN, e_slF, e_slL, e_cmN, e_cmC, e_fzF, e_pb, e_pbF, e_putN, e_putC, List.nodup_cons, List.nodup_nil, List.not_mem_nil, List.mem_cons, not_false_eq_true, or_false, and_self, and_true, true_and, List.contains_cons, List.contains_nil, BEq.rfl, Int.reduceLT, Int.reduceLE, Int.reduceAdd, Int.reduceSub, Int.reduceMul, Int.reduceNeg, Int.reduceEq, Nat.reduceLT, Nat.reduceLeDiff, Nat.reduceMul, Int.toNat_natCast, hmn]) rfl h4 (by omega) (by omega) (by omega)
      refine ⟨.fz (.int (1 + rr)), [some p2, some (.fz (.int a)), some (.fz (.int (1 + (m : Int))))], ?_, q ++ [1 + rr], p2, _, by simp [S.fr], rfl, by simp [h3, hl], by simpa [hl, Nat.add_assoc] using g3, ?_⟩
      · have e1 : vQ (qC (.int 1)) [some p', some (.fz (.int a)), some (.fz (.int (1 + (m : Int))))] = .ok (.fz (.int 1), [some p', some (.fz (.int a)), some (.fz (.int (1 + (m : Int))))]) := rfl
        exact v2_ok e1 g4
      · intro i hi
        rw [List.length_append, List.length_cons, List.length_nil, h3] at hi
        by_cases hc : i < q.length
        · rw [List.getElem_append_left hc]; exact h5 i hc
        · have : i = m := by omega
          subst this
          rw [List.getElem_append_right (by omega)]
          have e0 : i - q.length = 0 := by omega
          simp only [e0, List.getElem_cons_zero]
          omega
  refine ⟨q, p', ⟨by rw [h1, rng_len]; omega, h3⟩, h2.mono (by rw [rng_len]; omega), ?_⟩
  unfold m__law_plan b__law_plan
  simp only [fnSem, begin, e_thok, e_thexc, e_stok, e_stexc, e_onx, e_ort, e_obk, e_oct, e_oexc, e_rOv, e_rOn, e_qOv, e_qOn, e_rS, e_rB, e_rV, e_rM, e_qS, e_oV, e_oQ, e_vQ, e_qVar, e_qC, e_vVar, e_vMove, e_o1, e_o2, e_v1, e_v2, e_bind, e_frz, e_frl, e_seq, e_set, e_ret, e_drop, e_pass, e_brk, e_cnt, e_raise, e_raise1, e_if, e_bC, e_bV, e_qT, e_bQ, e_bAnd, e_bOr, e_bNot, e_bYes, e_bl, e_trub, e_trui, e_trul, e_trut, e_trus, e_trun, e_int?, e_vIf, e_le, e_lt, e_ge, e_gt, e_add, e_sub, e_neg, e_abs, e_int, e_lenl, e_lent, e_lens, e_listl, e_listt, e_lists, e_min2, e_max2, e_ix, e_ixt, atI_nat, atI_0, atI_1, atI_2, atI_3, atI_4, e_mapv, e_pO, e_pP, e_sPut, e_aNo, e_aFz, e_aS, e_aSl, e_gS, e_argN, e_argF, e_argL, e_vCall, e_cA, e_cFok, e_cFexc, e_fills, e_qNo, e_qA, e_qAnd, e_oTup, e_oLst, e_tT, e_tL, e_sz, e_szl, e_vLst, e_vTup, e_dL, e_dT, e_allN, e_allC, e_mR, e_mL, e_mS, e_vLm, e_lA, e_lO, e_vAnd, e_vOrB, e_chA, e_oCh, e_sFor, e_iS, e_iSeq, e_itl, e_itt, e_its, e_iR, e_iRng0, e_forN, e_aName, e_aTup, e_aCons, e_aNil, e_vLc, e_vLc2, e_lR, e_wpN, e_wpC, e_rstF, e_rstL, e_rstN, e_rsN, e_rsC, Option.map_some, Option.map_none, List.getElem?_cons_zero, List.getElem?_cons_succ, List.set_cons_zero, List.set_cons_succ, List.map_cons, List.map_nil, List.cons_append, List.nil_append, List.append_nil, List.length_cons, List.length_nil, List.replicate, Nat.reduceAdd, Nat.reduceSub, if_true, if_false, ite_true, ite_false, decide_true, decide_false, Bool.false_eq_true, Bool.not_true, Bool.not_false, decide_eq_true_eq, decide_not, Bool.not_eq_true', decide_eq_false_iff_not, e_isaI, e_isaB, e_isaS, e_isaL, e_isaT, e_isaN, e_isa2I, e_isa2B, e_isa2S, e_isa2L, e_isa2T, e_isNnon, e_isNint, e_isNbl, e_isNstr, e_isNlst, e_isNtup, e_isB, e_eqI, e_neI, e_pow18, isaB, String.reduceBEq, Bool.or_false, Bool.false_or, Bool.and_false, Bool.false_and, Bool.true_and, Bool.and_true, Bool.or_true, Bool.true_or, Bool.xor_false, Bool.false_xor, Bool.xor_true, Bool.true_xor, e_mulS, e_divS, e_mod, e_append, e_put, e_put1, e_put2, e_put3, e_put4, e_frN, e_frR, e_frX, e_frE, e_frO, e_outN, e_outC, e_ou, e_notB, e_notL, e_slN, e_slF, e_slL, e_cmN, e_cmC, e_fzF, e_pb, e_pbF, e_putN, e_putC, List.nodup_cons, List.nodup_nil, List.not_mem_nil, List.mem_cons, not_false_eq_true, or_false, and_self, and_true, true_and, List.contains_cons, List.contains_nil, BEq.rfl, Int.reduceLT, Int.reduceLE, Int.reduceAdd, Int.reduceSub, Int.reduceMul, Int.reduceNeg, Int.reduceEq, Nat.reduceLT, Nat.reduceLeDiff, Nat.reduceMul, Int.toNat_natCast, e_iRng, e_iK, e_iR3, r1, ra, e, hpz]
abbrev EA (x p : S) (a : Int) (c : Int × Int) (o4 o5 o6 o7 o8 o9 o10 : Option S) : VS.Env := [some x, some p, I a, Z (fr c), o4, o5, o6, o7, o8, o9, o10, none]
/-- what is known of an aim and a chance -/
def Good (a : Int) (c : Int × Int) : Prop := ∃ (pl : List Int) (top lin : List (Int × Int)) (ps : List (List Int)), (∀ q, isPlan a q → q ∈ ps) ∧
  (∀ (n : Nat) (x p : S), PoolOk n p → n < 2 ^ 40 → ∃ p' o6 o7 o9, PoolOk (n + 100) p' ∧ sSeq segA segB (EA x p a c none none none none none none none) = .nx (EA x p' a c (Z (nums pl)) (Z (frs top)) o6 o7 none o9 none)) ∧
  (∀ (x p : S) (o4 o6 o7 o8 o9 o10 : Option S), t9 (EA x p a c o4 (Z (frs top)) o6 o7 o8 o9 o10) = .ok (.lst [frs top, frs lin], EA x p a c o4 (Z (frs top)) o6 o7 o8 o9 o10)) ∧
  (∀ q ∈ ps, ∀ v ∈ [frs top, frs lin], ∀ (x p : S) (o4 o5 o6 o8 o10 : Option S), ∃ b, segC (EA x p a c o4 o5 o6 (some (.lst (q.map .int))) o8 (Z v) o10) = .nx (EA x p a c o4 o5 o6 (Z (nums q)) o8 (Z v) (Z (.bl b)))) ∧
  (∀ (x p : S) (o4 o6 o7 o8 o9 o10 : Option S), segD (EA x p a c o4 (Z (frs top)) o6 o7 o8 o9 o10) = .rt (.fz (.bl true)) (EA x p a c o4 (Z (frs top)) o6 o7 o8 o9 o10))
/-- the loop over the others, an aim of six -/
theorem six {c : Int × Int} {pl : List Int} {top : List (Int × Int)} {ps : List (List Int)} (hps : ∀ q, isPlan 6 q → q ∈ ps)
    (hA : ∀ (x p : S), segA (EA x p 6 c none none none none none none none) = .nx (EA x p 6 c (Z (nums pl)) (Z (frs top)) none none none none none))
    (hB : ∀ q ∈ ps, ∀ (x p : S) (o6 o9 : Option S), ∃ o, l8b (EA x p 6 c (Z (nums pl)) (Z (frs top)) o6 (Z (nums q)) none o9 none) = .nx (EA x p 6 c (Z (nums pl)) (Z (frs top)) o6 (Z (nums q)) none o none))
    (n : Nat) (x p : S) (hp : PoolOk n p) (hn : n < 2 ^ 40) : ∃ p' o6 o7 o9, PoolOk (n + 100) p' ∧ sSeq segA segB (EA x p 6 c none none none none none none none) = .nx (EA x p' 6 c (Z (nums pl)) (Z (frs top)) o6 o7 none o9 none) := by
  rw [seq_nx (hA x p)]
  have r6 : Rg 6 := rg_of (by omega) (by omega)
  obtain ⟨acc, ρ', e, p', h0, h1, h2, h3⟩ := lc_pre (own := [8]) (a := aName 8) (b := bYes) (t := vCall [0] (fills [] m__law_plan) (aSl 1 (aFz (vVar 2) aNo)))
    (J := fun l acc ρ => ∃ (p' : S), wipeE ρ [8] = EA x p' 6 c (Z (nums pl)) (Z (frs top)) none none none none none ∧ PoolOk (n + 5 * l.length) p' ∧ acc.length = l.length ∧ ∀ d ∈ acc, ∃ q, isPlan 6 q ∧ d = nums q)
    (all := rng 0 6) (ds := rng 0 6) (done := []) (acc := []) (ρ := EA x p 6 c (Z (nums pl)) (Z (frs top)) none none none none none) rfl ⟨p, rfl, hp, rfl, fun d h => (nomatch h)⟩ (by rw [rng_len, sizeLine_eq, List.length_nil]; omega)
    fun l d r acc ρ hall ⟨p', h1, h2, h3, h4⟩ => by
      obtain ⟨rfl, hlt⟩ := rng_split hall
      obtain ⟨q, p2, g1, g2, g3⟩ := plan_ok (a := 6) h2 (by omega) (by omega)
      have hz := h2.isFz
      rw [h1]
      refine ⟨_, rfl, true, _, rfl, .inr ⟨rfl, .lst (q.map .int), EA x p2 6 c (Z (nums pl)) (Z (frs top)) none none (I (0 + l.length)) none none, ?_, p2, rfl, ?_, ?_, ?_⟩⟩
      · show vCall _ _ _ (EA x p' 6 c _ _ none none _ none none) = _
        simp only [fnSem, begin, e_thok, e_thexc, e_stok, e_stexc, e_onx, e_ort, e_obk, e_oct, e_oexc, e_rOv, e_rOn, e_qOv, e_qOn, e_rS, e_rB, e_rV, e_rM, e_qS, e_oV, e_oQ, e_vQ, e_qVar, e_qC, e_vVar, e_vMove, e_o1, e_o2, e_v1, e_v2, e_bind, e_frz, e_frl, e_seq, e_set, e_ret, e_drop, e_pass, e_brk, e_cnt, e_raise, e_raise1, e_if, e_bC, e_bV, e_qT, e_bQ, e_bAnd, e_bOr, e_bNot, e_bYes, e_bl, e_trub, e_trui, e_trul, e_trut, e_trus, e_trun, e_int?, e_vIf, e_le, e_lt, e_ge, e_gt, e_add, e_sub, e_neg, e_abs, e_int, e_lenl, e_lent, e_lens, e_listl, e_listt, e_lists, e_min2, e_max2, e_ix, e_ixt, atI_nat, atI_0, atI_1, atI_2, atI_3, atI_4, e_mapv, e_pO, e_pP, e_sPut, e_aNo, e_aFz, e_aS, e_aSl, e_gS, e_argN, e_argF, e_argL, e_vCall, e_cA, e_cFok, e_cFexc, e_fills, e_qNo, e_qA, e_qAnd, e_oTup, e_oLst, e_tT, e_tL, e_sz, e_szl, e_vLst, e_vTup, e_dL, e_dT, e_allN, e_allC, e_mR, e_mL, e_mS, e_vLm, e_lA, e_lO, e_vAnd, e_vOrB, e_chA, e_oCh, e_sFor, e_iS, e_iSeq, e_itl, e_itt, e_its, e_iR, e_iRng0, e_forN, e_aName, e_aTup, e_aCons, e_aNil, e_vLc, e_vLc2, e_lR, e_wpN, e_wpC, e_rstF, e_rstL, e_rstN, e_rsN, e_rsC, Option.map_some, Option.map_none, List.getElem?_cons_zero, List.getElem?_cons_succ, List.set_cons_zero, List.set_cons_succ, List.map_cons, List.map_nil, List.cons_append, List.nil_append, List.append_nil, List.length_cons, List.length_nil, List.replicate, Nat.reduceAdd, Nat.reduceSub, if_true, if_false, ite_true, ite_false, decide_true, decide_false, Bool.false_eq_true, Bool.not_true, Bool.not_false, decide_eq_true_eq, decide_not, Bool.not_eq_true', decide_eq_false_iff_not, e_isaI, e_isaB, e_isaS, e_isaL, e_isaT, e_isaN, e_isa2I, e_isa2B, e_isa2S, e_isa2L, e_isa2T, e_isNnon, e_isNint, e_isNbl, e_isNstr, e_isNlst, e_isNtup, e_isB, e_eqI, e_neI, e_pow18, isaB, String.reduceBEq, Bool.or_false, Bool.false_or, Bool.and_false, Bool.false_and, Bool.true_and, Bool.and_true, Bool.or_true, Bool.true_or, Bool.xor_false, Bool.false_xor, Bool.xor_true, Bool.true_xor, e_mulS, e_divS, e_mod, e_append, e_put, e_put1, e_put2, e_put3, e_put4, e_frN, e_frR, e_frX, e_frE, e_frO, e_outN, e_outC, e_ou, e_notB, e_notL, e_slN, e_slF, e_slL, e_cmN, e_cmC, e_fzF, e_pb, e_pbF, e_putN, e_putC, List.nodup_cons, List.nodup_nil, List.not_mem_nil, List.mem_cons, not_false_eq_true, or_false, and_self, and_true, true_and, List.contains_cons, List.contains_nil, BEq.rfl, Int.reduceLT, Int.reduceLE, Int.reduceAdd, Int.reduceSub, Int.reduceMul, Int.reduceNeg, Int.reduceEq, Nat.reduceLT, Nat.reduceLeDiff, Nat.reduceMul, Int.toNat_natCast, g3, hz]
      · exact g2.mono (by rw [List.length_append, List.length_cons, List.length_nil]; omega)
      · rw [List.length_append, List.length_append, h3]; rfl
      · intro d hd
        rcases List.mem_append.mp hd with hd | hd
        · exact h4 d hd
        · rw [List.mem_singleton] at hd
          exact ⟨q, g1, hd⟩
  have e7 : l7 (EA x p 6 c (Z (nums pl)) (Z (frs top)) none none none none none) = .nx (EA x p' 6 c (Z (nums pl)) (Z (frs top)) (some (.lst acc)) none none none none) := by
    have e1 := vLc_ok (own := [8]) (it := iRng0 (vQ (qC (.int 6)))) (ρ := EA x p 6 c (Z (nums pl)) (Z (frs top)) none none none none none) (by simp only [fnSem, begin, e_thok, e_thexc, e_stok, e_stexc, e_onx, e_ort, e_obk, e_oct, e_oexc, e_rOv, e_rOn, e_qOv, e_qOn, e_rS, e_rB, e_rV, e_rM, e_qS, e_oV, e_oQ, e_vQ, e_qVar, e_qC, e_vVar, e_vMove, e_o1, e_o2, e_v1, e_v2, e_bind, e_frz, e_frl, e_seq, e_set, e_ret, e_drop, e_pass, e_brk, e_cnt, e_raise, e_raise1, e_if, e_bC, e_bV, e_qT, e_bQ, e_bAnd, e_bOr, e_bNot, e_bYes, e_bl, e_trub, e_trui, e_trul, e_trut, e_trus, e_trun, e_int?, e_vIf, e_le, e_lt, e_ge, e_gt, e_add, e_sub, e_neg, e_abs, e_int, e_lenl, e_lent, e_lens, e_listl, e_listt, e_lists, e_min2, e_max2, e_ix, e_ixt, atI_nat, atI_0, atI_1, atI_2, atI_3, atI_4, e_mapv, e_pO, e_pP, e_sPut, e_aNo, e_aFz, e_aS, e_aSl, e_gS, e_argN, e_argF, e_argL, e_vCall, e_cA, e_cFok, e_cFexc, e_fills, e_qNo, e_qA, e_qAnd, e_oTup, e_oLst, e_tT, e_tL, e_sz, e_szl, e_vLst, e_vTup, e_dL, e_dT, e_allN, e_allC, e_mR, e_mL, e_mS, e_vLm, e_lA, e_lO, e_vAnd, e_vOrB, e_chA, e_oCh, e_sFor, e_iS, e_iSeq, e_itl, e_itt, e_its, e_iR, e_iRng0, e_forN, e_aName, e_aTup, e_aCons, e_aNil, e_vLc, e_vLc2, e_lR, e_wpN, e_wpC, e_rstF, e_rstL, e_rstN, e_rsN, e_rsC, Option.map_some, Option.map_none, List.getElem?_cons_zero, List.getElem?_cons_succ, List.set_cons_zero, List.set_cons_succ, List.map_cons, List.map_nil, List.cons_append, List.nil_append, List.append_nil, List.length_cons, List.length_nil, List.replicate, Nat.reduceAdd, Nat.reduceSub, if_true, if_false, ite_true, ite_false, decide_true, decide_false, Bool.false_eq_true, Bool.not_true, Bool.not_false, decide_eq_true_eq, decide_not, Bool.not_eq_true', decide_eq_false_iff_not, e_isaI, e_isaB, e_isaS, e_isaL, e_isaT, e_isaN, e_isa2I, e_isa2B, e_isa2S, e_isa2L, e_isa2T, e_isNnon, e_isNint, e_isNbl, e_isNstr, e_isNlst, e_isNtup, e_isB, e_eqI, e_neI, e_pow18, isaB, String.reduceBEq, Bool.or_false, Bool.false_or, Bool.and_false, Bool.false_and, Bool.true_and, Bool.and_true, Bool.or_true, Bool.true_or, Bool.xor_false, Bool.false_xor, Bool.xor_true, Bool.true_xor, e_mulS, e_divS, e_mod, e_append, e_put, e_put1, e_put2, e_put3, e_put4, e_frN, e_frR, e_frX, e_frE, e_frO, e_outN, e_outC, e_ou, e_notB, e_notL, e_slN, e_slF, e_slL, e_cmN, e_cmC, e_fzF, e_pb, e_pbF, e_putN, e_putC, List.nodup_cons, List.nodup_nil, List.not_mem_nil, List.mem_cons, not_false_eq_true, or_false, and_self, and_true, true_and, List.contains_cons, List.contains_nil, BEq.rfl, Int.reduceLT, Int.reduceLE, Int.reduceAdd, Int.reduceSub, Int.reduceMul, Int.reduceNeg, Int.reduceEq, Nat.reduceLT, Nat.reduceLeDiff, Nat.reduceMul, Int.toNat_natCast, r6]) e
    have e2 : restE (EA x p 6 c (Z (nums pl)) (Z (frs top)) none none none none none) [8] ρ' = EA x p' 6 c (Z (nums pl)) (Z (frs top)) none none none none none := h0
    rw [e2] at e1
    unfold l7
    have e3 : vIf (bC (oV (o2 dLt (qVar 2) (qC (.int 6))))) (vCall [] (fills [] t__law_plans) (aFz (vVar 2) aNo)) (vLc [8] (iRng0 (vQ (qC (.int 6)))) (aName 8) bYes (vCall [0] (fills [] m__law_plan) (aSl 1 (aFz (vVar 2) aNo)))) (EA x p 6 c (Z (nums pl)) (Z (frs top)) none none none none none) = .ok (.lst acc, EA x p' 6 c (Z (nums pl)) (Z (frs top)) none none none none none) := by
      rw [← e1]; rfl
    rw [set_eq e3]
    rfl
  have e8 : l8 (EA x p' 6 c (Z (nums pl)) (Z (frs top)) (some (.lst acc)) none none none none) = forL (aName 7) l8b (cutL acc none (some 12)) (EA x p' 6 c (Z (nums pl)) (Z (frs top)) (some (.lst acc)) none none none none) := for_ok rfl
  obtain ⟨ρ2, e9, o7, o9, rfl⟩ := for_all (a := aName 7) (t := l8b) (I := fun _ ρ => ∃ o7 o9, ρ = EA x p' 6 c (Z (nums pl)) (Z (frs top)) (some (.lst acc)) o7 none o9 none) (ds := cutL acc none (some 12)) (done := [])
    (ρ := EA x p' 6 c (Z (nums pl)) (Z (frs top)) (some (.lst acc)) none none none none) ⟨none, none, rfl⟩ fun d hd l ρ ⟨o7, o9, hρ⟩ => by
      subst hρ
      obtain ⟨q, hq, rfl⟩ := h3 d (cutL_mem hd)
      obtain ⟨o, hB⟩ := hB q (hps q hq) x p' (some (.lst acc)) o9
      exact ⟨_, rfl, _, .inl hB, _, _, rfl⟩
  refine ⟨p', some (.lst acc), o7, o9, h1.mono (by rw [rng_len]; omega), ?_⟩
  show sSeq l7 l8 _ = _
  rw [seq_nx e7, e8, e9]
/-- the last loop and the end -/
theorem rest_ok {a : Int} {c : Int × Int} (ha : 2 ≤ a ∧ a ≤ 6) (G : Good a c) {n : Nat} {x p : S} (hp : PoolOk n p) (hn : n < 2 ^ 30) :
    ∃ ρ, sSeq segA (sSeq segB (sSeq l9 segD)) (EA x p a c none none none none none none none) = .rt (.fz (.bl true)) ρ := by
  obtain ⟨pl, top, lin, ps, hps, hA, hL, hC, hD⟩ := G
  obtain ⟨p1, o6, o7, o9, op1, e1⟩ := hA n x p hp (by omega)
  have r3 : Rg 3 := rg_of (by omega) (by omega)
  have e2 : l9 (EA x p1 a c (Z (nums pl)) (Z (frs top)) o6 o7 none o9 none) = forL (aName 8) l9b (rng 0 3) (EA x p1 a c (Z (nums pl)) (Z (frs top)) o6 o7 none o9 none) := for_ok (by simp only [fnSem, begin, e_thok, e_thexc, e_stok, e_stexc, e_onx, e_ort, e_obk, e_oct, e_oexc, e_rOv, e_rOn, e_qOv, e_qOn, e_rS, e_rB, e_rV, e_rM, e_qS, e_oV, e_oQ, e_vQ, e_qVar, e_qC, e_vVar, e_vMove, e_o1, e_o2, e_v1, e_v2, e_bind, e_frz, e_frl, e_seq, e_set, e_ret, e_drop, e_pass, e_brk, e_cnt, e_raise, e_raise1, e_if, e_bC, e_bV, e_qT, e_bQ, e_bAnd, e_bOr, e_bNot, e_bYes, e_bl, e_trub, e_trui, e_trul, e_trut, e_trus, e_trun, e_int?, e_vIf, e_le, e_lt, e_ge, e_gt, e_add, e_sub, e_neg, e_abs, e_int, e_lenl, e_lent, e_lens, e_listl, e_listt, e_lists, e_min2, e_max2, e_ix, e_ixt, atI_nat, atI_0, atI_1, atI_2, atI_3, atI_4, e_mapv, e_pO, e_pP, e_sPut, e_aNo, e_aFz, e_aS, e_aSl, e_gS, e_argN, e_argF, e_argL, e_vCall, e_cA, e_cFok, e_cFexc, e_fills, e_qNo, e_qA, e_qAnd, e_oTup, e_oLst, e_tT, e_tL, e_sz, e_szl, e_vLst, e_vTup, e_dL, e_dT, e_allN, e_allC, e_mR, e_mL, e_mS, e_vLm, e_lA, e_lO, e_vAnd, e_vOrB, e_chA, e_oCh, e_sFor, e_iS, e_iSeq, e_itl, e_itt, e_its, e_iR, e_iRng0, e_forN, e_aName, e_aTup, e_aCons, e_aNil, e_vLc, e_vLc2, e_lR, e_wpN, e_wpC, e_rstF, e_rstL, e_rstN, e_rsN, e_rsC, Option.map_some, Option.map_none, List.getElem?_cons_zero, List.getElem?_cons_succ, List.set_cons_zero, List.set_cons_succ, List.map_cons, List.map_nil, List.cons_append, List.nil_append, List.append_nil, List.length_cons, List.length_nil, List.replicate, Nat.reduceAdd, Nat.reduceSub, if_true, if_false, ite_true, ite_false, decide_true, decide_false, Bool.false_eq_true, Bool.not_true, Bool.not_false, decide_eq_true_eq, decide_not, Bool.not_eq_true', decide_eq_false_iff_not, e_isaI, e_isaB, e_isaS, e_isaL, e_isaT, e_isaN, e_isa2I, e_isa2B, e_isa2S, e_isa2L, e_isa2T, e_isNnon, e_isNint, e_isNbl, e_isNstr, e_isNlst, e_isNtup, e_isB, e_eqI, e_neI, e_pow18, isaB, String.reduceBEq, Bool.or_false, Bool.false_or, Bool.and_false, Bool.false_and, Bool.true_and, Bool.and_true, Bool.or_true, Bool.true_or, Bool.xor_false, Bool.false_xor, Bool.xor_true, Bool.true_xor, e_mulS, e_divS, e_mod, e_append, e_put, e_put1, e_put2, e_put3, e_put4, e_frN, e_frR, e_frX, e_frE, e_frO, e_outN, e_outC, e_ou, e_notB, e_notL, e_slN, e_slF, e_slL, e_cmN, e_cmC, e_fzF, e_pb, e_pbF, e_putN, e_putC, List.nodup_cons, List.nodup_nil, List.not_mem_nil, List.mem_cons, not_false_eq_true, or_false, and_self, and_true, true_and, List.contains_cons, List.contains_nil, BEq.rfl, Int.reduceLT, Int.reduceLE, Int.reduceAdd, Int.reduceSub, Int.reduceMul, Int.reduceNeg, Int.reduceEq, Nat.reduceLT, Nat.reduceLeDiff, Nat.reduceMul, Int.toNat_natCast, r3])
  obtain ⟨ρ2, e3, p2, o7', o8', o9', o10', op2, rfl⟩ := for_pre (a := aName 8) (t := l9b) (I := fun l ρ => ∃ p2 o7 o8 o9 o10, PoolOk (n + 100 + 10 * l.length) p2 ∧ ρ = EA x p2 a c (Z (nums pl)) (Z (frs top)) o6 o7 o8 o9 o10) (all := rng 0 3) (ds := rng 0 3) (done := [])
    (ρ := EA x p1 a c (Z (nums pl)) (Z (frs top)) o6 o7 none o9 none) rfl ⟨p1, o7, none, o9, none, op1, rfl⟩ fun l d r ρ hall ⟨p2, o7, o8, o9, o10, op2, hρ⟩ => by
      subst hρ
      obtain ⟨rfl, hlt⟩ := rng_split hall
      obtain ⟨q, p3, g1, g2, g3⟩ := plan_ok op2 (by omega) ha
      have hz := op2.isFz
      have f1 : s7 (EA x p2 a c (Z (nums pl)) (Z (frs top)) o6 o7 (I (0 + l.length)) o9 o10) = .nx (EA x p3 a c (Z (nums pl)) (Z (frs top)) o6 (some (.lst (q.map .int))) (I (0 + l.length)) o9 o10) := by
        have e : vCall [0] (fills [] m__law_plan) (aSl 1 (aFz (vVar 2) aNo)) (EA x p2 a c (Z (nums pl)) (Z (frs top)) o6 o7 (I (0 + l.length)) o9 o10) = .ok (.lst (q.map .int), EA x p3 a c (Z (nums pl)) (Z (frs top)) o6 o7 (I (0 + l.length)) o9 o10) := by
          simp only [fnSem, begin, e_thok, e_thexc, e_stok, e_stexc, e_onx, e_ort, e_obk, e_oct, e_oexc, e_rOv, e_rOn, e_qOv, e_qOn, e_rS, e_rB, e_rV, e_rM, e_qS, e_oV, e_oQ, e_vQ, e_qVar, e_qC, e_vVar, e_vMove, e_o1, e_o2, e_v1, e_v2, e_bind, e_frz, e_frl, e_seq, e_set, e_ret, e_drop, e_pass, e_brk, e_cnt, e_raise, e_raise1, e_if, e_bC, e_bV, e_qT, e_bQ, e_bAnd, e_bOr, e_bNot, e_bYes, e_bl, e_trub, e_trui, e_trul, e_trut, e_trus, e_trun, e_int?, e_vIf, e_le, e_lt, e_ge, e_gt, e_add, e_sub, e_neg, e_abs, e_int, e_lenl, e_lent, e_lens, e_listl, e_listt, e_lists, e_min2, e_max2, e_ix, e_ixt, atI_nat, atI_0, atI_1, atI_2, atI_3, atI_4, e_mapv, e_pO, e_pP, e_sPut, e_aNo, e_aFz, e_aS, e_aSl, e_gS, e_argN, e_argF, e_argL, e_vCall, e_cA, e_cFok, e_cFexc, e_fills, e_qNo, e_qA, e_qAnd, e_oTup, e_oLst, e_tT, e_tL, e_sz, e_szl, e_vLst, e_vTup, e_dL, e_dT, e_allN, e_allC, e_mR, e_mL, e_mS, e_vLm, e_lA, e_lO, e_vAnd, e_vOrB, e_chA, e_oCh, e_sFor, e_iS, e_iSeq, e_itl, e_itt, e_its, e_iR, e_iRng0, e_forN, e_aName, e_aTup, e_aCons, e_aNil, e_vLc, e_vLc2, e_lR, e_wpN, e_wpC, e_rstF, e_rstL, e_rstN, e_rsN, e_rsC, Option.map_some, Option.map_none, List.getElem?_cons_zero, List.getElem?_cons_succ, List.set_cons_zero, List.set_cons_succ, List.map_cons, List.map_nil, List.cons_append, List.nil_append, List.append_nil, List.length_cons, List.length_nil, List.replicate, Nat.reduceAdd, Nat.reduceSub, if_true, if_false, ite_true, ite_false, decide_true, decide_false, Bool.false_eq_true, Bool.not_true, Bool.not_false, decide_eq_true_eq, decide_not, Bool.not_eq_true', decide_eq_false_iff_not, e_isaI, e_isaB, e_isaS, e_isaL, e_isaT, e_isaN, e_isa2I, e_isa2B, e_isa2S, e_isa2L, e_isa2T, e_isNnon, e_isNint, e_isNbl, e_isNstr, e_isNlst, e_isNtup, e_isB, e_eqI, e_neI, e_pow18, isaB, String.reduceBEq, Bool.or_false, Bool.false_or, Bool.and_false, Bool.false_and, Bool.true_and, Bool.and_true, Bool.or_true, Bool.true_or, Bool.xor_false, Bool.false_xor, Bool.xor_true, Bool.true_xor, e_mulS, e_divS, e_mod, e_append, e_put, e_put1, e_put2, e_put3, e_put4, e_frN, e_frR, e_frX, e_frE, e_frO, e_outN, e_outC, e_ou, e_notB, e_notL, e_slN, e_slF, e_slL, e_cmN, e_cmC, e_fzF, e_pb, e_pbF, e_putN, e_putC, List.nodup_cons, List.nodup_nil, List.not_mem_nil, List.mem_cons, not_false_eq_true, or_false, and_self, and_true, true_and, List.contains_cons, List.contains_nil, BEq.rfl, Int.reduceLT, Int.reduceLE, Int.reduceAdd, Int.reduceSub, Int.reduceMul, Int.reduceNeg, Int.reduceEq, Nat.reduceLT, Nat.reduceLeDiff, Nat.reduceMul, Int.toNat_natCast, g3, hz]
        unfold s7
        rw [set_eq e]; rfl
      obtain ⟨i, v, p4, k1, k2, k3⟩ := pick_v (k := 1) (T := t9) rfl (hL x p3 (Z (nums pl)) o6 (some (.lst (q.map .int))) (I (0 + l.length)) o9 o10) rfl rfl g2 (by omega) (List.cons_ne_nil _ _) (by show 2 < 2 ^ 60; decide)
      have hv : v ∈ [frs top, frs lin] := List.mem_of_getElem? k1
      have f2 : s9 (EA x p3 a c (Z (nums pl)) (Z (frs top)) o6 (some (.lst (q.map .int))) (I (0 + l.length)) o9 o10) = .nx (EA x p4 a c (Z (nums pl)) (Z (frs top)) o6 (some (.lst (q.map .int))) (I (0 + l.length)) (Z v) o10) := by
        show sSet 9 (vCall [0] (fills [] c_pick) (aSl 1 (aFz t9 aNo))) _ = _
        rw [set_eq k3]; rfl
      obtain ⟨b, f3⟩ := hC q (hps q g1) v hv x p4 (Z (nums pl)) (Z (frs top)) o6 (I (0 + l.length)) o10
      refine ⟨_, rfl, EA x p4 a c (Z (nums pl)) (Z (frs top)) o6 (Z (nums q)) (I (0 + l.length)) (Z v) (Z (.bl b)), .inl ?_, p4, _, _, _, _, k2.mono (by rw [List.length_append, List.length_cons, List.length_nil]; omega), rfl⟩
      show l9b (EA x p2 a c (Z (nums pl)) (Z (frs top)) o6 o7 (I (0 + l.length)) o9 o10) = _
      rw [l9b_eq, seq_nx f1, seq_nx f2, f3]
  have e4 : sSeq segA (sSeq segB (sSeq l9 segD)) (EA x p a c none none none none none none none) = sSeq l9 segD (EA x p1 a c (Z (nums pl)) (Z (frs top)) o6 o7 none o9 none) := by
    have h : ∀ (s t u : TSt) ρ ρ', sSeq s t ρ = .nx ρ' → sSeq s (sSeq t u) ρ = u ρ' := by
      intro s t u ρ ρ' h
      rw [e_seq] at h ⊢
      cases hs : s ρ with
      | nx ρ1 => rw [hs, e_onx] at h; rw [e_onx, e_seq, h, e_onx]
      | rt s' ρ1 => rw [hs, e_ort] at h; cases h
      | bk ρ1 => rw [hs, e_obk] at h; cases h
      | ct ρ1 => rw [hs, e_oct] at h; cases h
      | exc y ρ1 => rw [hs, e_oexc] at h; cases h
      | bad => rw [hs] at h; cases h
    exact h _ _ _ _ _ e1
  exact ⟨_, (e4.trans (seq_nx (e2.trans e3))).trans (hD x p2 _ _ _ _ _ _)⟩
theorem ps_2 : ∀ q, isPlan 2 q → q ∈ ([[1]] : List (List Int)) := by
  intro q ⟨h, hb⟩
  match q, h with
  | [q0], _ =>
    have b0 := hb 0 (by simp)
    simp only [List.getElem_cons_zero, List.getElem_cons_succ] at b0
    have c0 : q0 = 1 := by omega
    rcases c0 with rfl
    all_goals simp
theorem ps_3 : ∀ q, isPlan 3 q → q ∈ ([[1, 1]] : List (List Int)) := by
  intro q ⟨h, hb⟩
  match q, h with
  | [q0, q1], _ =>
    have b0 := hb 0 (by simp)
    have b1 := hb 1 (by simp)
    simp only [List.getElem_cons_zero, List.getElem_cons_succ] at b0 b1
    have c0 : q0 = 1 := by omega
    have c1 : q1 = 1 := by omega
    rcases c0 with rfl
    all_goals rcases c1 with rfl
    all_goals simp
theorem ps_4 : ∀ q, isPlan 4 q → q ∈ ([[1, 1, 1], [1, 2, 1]] : List (List Int)) := by
  intro q ⟨h, hb⟩
  match q, h with
  | [q0, q1, q2], _ =>
    have b0 := hb 0 (by simp)
    have b1 := hb 1 (by simp)
    have b2 := hb 2 (by simp)
    simp only [List.getElem_cons_zero, List.getElem_cons_succ] at b0 b1 b2
    have c0 : q0 = 1 := by omega
    have c1 : q1 = 1 ∨ q1 = 2 := by omega
    have c2 : q2 = 1 := by omega
    rcases c0 with rfl
    all_goals rcases c1 with rfl | rfl
    all_goals rcases c2 with rfl
    all_goals simp
theorem ps_5 : ∀ q, isPlan 5 q → q ∈ ([[1, 1, 1, 1], [1, 1, 2, 1], [1, 2, 1, 1], [1, 2, 2, 1]] : List (List Int)) := by
  intro q ⟨h, hb⟩
  match q, h with
  | [q0, q1, q2, q3], _ =>
    have b0 := hb 0 (by simp)
    have b1 := hb 1 (by simp)
    have b2 := hb 2 (by simp)
    have b3 := hb 3 (by simp)
    simp only [List.getElem_cons_zero, List.getElem_cons_succ] at b0 b1 b2 b3
    have c0 : q0 = 1 := by omega
    have c1 : q1 = 1 ∨ q1 = 2 := by omega
    have c2 : q2 = 1 ∨ q2 = 2 := by omega
    have c3 : q3 = 1 := by omega
    rcases c0 with rfl
    all_goals rcases c1 with rfl | rfl
    all_goals rcases c2 with rfl | rfl
    all_goals rcases c3 with rfl
    all_goals simp
theorem ps_6 : ∀ q, isPlan 6 q → q ∈ ([[1, 1, 1, 1, 1], [1, 1, 1, 2, 1], [1, 1, 2, 1, 1], [1, 1, 2, 2, 1], [1, 1, 3, 1, 1], [1, 1, 3, 2, 1], [1, 2, 1, 1, 1], [1, 2, 1, 2, 1], [1, 2, 2, 1, 1], [1, 2, 2, 2, 1], [1, 2, 3, 1, 1], [1, 2, 3, 2, 1]] : List (List Int)) := by
  intro q ⟨h, hb⟩
  match q, h with
  | [q0, q1, q2, q3, q4], _ =>
    have b0 := hb 0 (by simp)
    have b1 := hb 1 (by simp)
    have b2 := hb 2 (by simp)
    have b3 := hb 3 (by simp)
    have b4 := hb 4 (by simp)
    simp only [List.getElem_cons_zero, List.getElem_cons_succ] at b0 b1 b2 b3 b4
    have c0 : q0 = 1 := by omega
    have c1 : q1 = 1 ∨ q1 = 2 := by omega
    have c2 : q2 = 1 ∨ q2 = 2 ∨ q2 = 3 := by omega
    have c3 : q3 = 1 ∨ q3 = 2 := by omega
    have c4 : q4 = 1 := by omega
    rcases c0 with rfl
    all_goals rcases c1 with rfl | rfl
    all_goals rcases c2 with rfl | rfl | rfl
    all_goals rcases c3 with rfl | rfl
    all_goals rcases c4 with rfl
    all_goals simp
theorem R2_12 : Good 2 (1, 2) := ⟨[1], [(0, 1), (1, 2), (1, 1)], [(0, 1), (1, 2), (1, 1)], [[1]], ps_2, fun n x p hp hn => ⟨p, _, _, _, hp.mono (by omega), A2_12 x p⟩, L2_12, (List.forall_mem_cons.mpr ⟨(List.forall_mem_cons.mpr ⟨fun x p o4 o5 o6 o8 o10 => ⟨_, C2_12_0_0 x p o4 o5 o6 o8 o10⟩, (List.forall_mem_cons.mpr ⟨fun x p o4 o5 o6 o8 o10 => ⟨_, C2_12_0_1 x p o4 o5 o6 o8 o10⟩, (fun _ h => nomatch h)⟩)⟩), (fun _ h => nomatch h)⟩), D2_12⟩
theorem R2_13 : Good 2 (1, 3) := ⟨[1], [(0, 1), (1, 3), (1, 1)], [(0, 1), (1, 2), (1, 1)], [[1]], ps_2, fun n x p hp hn => ⟨p, _, _, _, hp.mono (by omega), A2_13 x p⟩, L2_13, (List.forall_mem_cons.mpr ⟨(List.forall_mem_cons.mpr ⟨fun x p o4 o5 o6 o8 o10 => ⟨_, C2_13_0_0 x p o4 o5 o6 o8 o10⟩, (List.forall_mem_cons.mpr ⟨fun x p o4 o5 o6 o8 o10 => ⟨_, C2_13_0_1 x p o4 o5 o6 o8 o10⟩, (fun _ h => nomatch h)⟩)⟩), (fun _ h => nomatch h)⟩), D2_13⟩
theorem R2_23 : Good 2 (2, 3) := ⟨[1], [(0, 1), (2, 3), (1, 1)], [(0, 1), (1, 2), (1, 1)], [[1]], ps_2, fun n x p hp hn => ⟨p, _, _, _, hp.mono (by omega), A2_23 x p⟩, L2_23, (List.forall_mem_cons.mpr ⟨(List.forall_mem_cons.mpr ⟨fun x p o4 o5 o6 o8 o10 => ⟨_, C2_23_0_0 x p o4 o5 o6 o8 o10⟩, (List.forall_mem_cons.mpr ⟨fun x p o4 o5 o6 o8 o10 => ⟨_, C2_23_0_1 x p o4 o5 o6 o8 o10⟩, (fun _ h => nomatch h)⟩)⟩), (fun _ h => nomatch h)⟩), D2_23⟩
theorem R2_25 : Good 2 (2, 5) := ⟨[1], [(0, 1), (2, 5), (1, 1)], [(0, 1), (1, 2), (1, 1)], [[1]], ps_2, fun n x p hp hn => ⟨p, _, _, _, hp.mono (by omega), A2_25 x p⟩, L2_25, (List.forall_mem_cons.mpr ⟨(List.forall_mem_cons.mpr ⟨fun x p o4 o5 o6 o8 o10 => ⟨_, C2_25_0_0 x p o4 o5 o6 o8 o10⟩, (List.forall_mem_cons.mpr ⟨fun x p o4 o5 o6 o8 o10 => ⟨_, C2_25_0_1 x p o4 o5 o6 o8 o10⟩, (fun _ h => nomatch h)⟩)⟩), (fun _ h => nomatch h)⟩), D2_25⟩
theorem R2_34 : Good 2 (3, 4) := ⟨[1], [(0, 1), (3, 4), (1, 1)], [(0, 1), (1, 2), (1, 1)], [[1]], ps_2, fun n x p hp hn => ⟨p, _, _, _, hp.mono (by omega), A2_34 x p⟩, L2_34, (List.forall_mem_cons.mpr ⟨(List.forall_mem_cons.mpr ⟨fun x p o4 o5 o6 o8 o10 => ⟨_, C2_34_0_0 x p o4 o5 o6 o8 o10⟩, (List.forall_mem_cons.mpr ⟨fun x p o4 o5 o6 o8 o10 => ⟨_, C2_34_0_1 x p o4 o5 o6 o8 o10⟩, (fun _ h => nomatch h)⟩)⟩), (fun _ h => nomatch h)⟩), D2_34⟩
theorem R3_12 : Good 3 (1, 2) := ⟨[1, 1], [(0, 1), (1, 3), (2, 3), (1, 1)], [(0, 1), (1, 3), (2, 3), (1, 1)], [[1, 1]], ps_3, fun n x p hp hn => ⟨p, _, _, _, hp.mono (by omega), A3_12 x p⟩, L3_12, (List.forall_mem_cons.mpr ⟨(List.forall_mem_cons.mpr ⟨fun x p o4 o5 o6 o8 o10 => ⟨_, C3_12_0_0 x p o4 o5 o6 o8 o10⟩, (List.forall_mem_cons.mpr ⟨fun x p o4 o5 o6 o8 o10 => ⟨_, C3_12_0_1 x p o4 o5 o6 o8 o10⟩, (fun _ h => nomatch h)⟩)⟩), (fun _ h => nomatch h)⟩), D3_12⟩
theorem R3_13 : Good 3 (1, 3) := ⟨[1, 1], [(0, 1), (1, 7), (3, 7), (1, 1)], [(0, 1), (1, 3), (2, 3), (1, 1)], [[1, 1]], ps_3, fun n x p hp hn => ⟨p, _, _, _, hp.mono (by omega), A3_13 x p⟩, L3_13, (List.forall_mem_cons.mpr ⟨(List.forall_mem_cons.mpr ⟨fun x p o4 o5 o6 o8 o10 => ⟨_, C3_13_0_0 x p o4 o5 o6 o8 o10⟩, (List.forall_mem_cons.mpr ⟨fun x p o4 o5 o6 o8 o10 => ⟨_, C3_13_0_1 x p o4 o5 o6 o8 o10⟩, (fun _ h => nomatch h)⟩)⟩), (fun _ h => nomatch h)⟩), D3_13⟩
theorem R3_23 : Good 3 (2, 3) := ⟨[1, 1], [(0, 1), (4, 7), (6, 7), (1, 1)], [(0, 1), (1, 3), (2, 3), (1, 1)], [[1, 1]], ps_3, fun n x p hp hn => ⟨p, _, _, _, hp.mono (by omega), A3_23 x p⟩, L3_23, (List.forall_mem_cons.mpr ⟨(List.forall_mem_cons.mpr ⟨fun x p o4 o5 o6 o8 o10 => ⟨_, C3_23_0_0 x p o4 o5 o6 o8 o10⟩, (List.forall_mem_cons.mpr ⟨fun x p o4 o5 o6 o8 o10 => ⟨_, C3_23_0_1 x p o4 o5 o6 o8 o10⟩, (fun _ h => nomatch h)⟩)⟩), (fun _ h => nomatch h)⟩), D3_23⟩
theorem R3_25 : Good 3 (2, 5) := ⟨[1, 1], [(0, 1), (4, 19), (10, 19), (1, 1)], [(0, 1), (1, 3), (2, 3), (1, 1)], [[1, 1]], ps_3, fun n x p hp hn => ⟨p, _, _, _, hp.mono (by omega), A3_25 x p⟩, L3_25, (List.forall_mem_cons.mpr ⟨(List.forall_mem_cons.mpr ⟨fun x p o4 o5 o6 o8 o10 => ⟨_, C3_25_0_0 x p o4 o5 o6 o8 o10⟩, (List.forall_mem_cons.mpr ⟨fun x p o4 o5 o6 o8 o10 => ⟨_, C3_25_0_1 x p o4 o5 o6 o8 o10⟩, (fun _ h => nomatch h)⟩)⟩), (fun _ h => nomatch h)⟩), D3_25⟩
theorem R3_34 : Good 3 (3, 4) := ⟨[1, 1], [(0, 1), (9, 13), (12, 13), (1, 1)], [(0, 1), (1, 3), (2, 3), (1, 1)], [[1, 1]], ps_3, fun n x p hp hn => ⟨p, _, _, _, hp.mono (by omega), A3_34 x p⟩, L3_34, (List.forall_mem_cons.mpr ⟨(List.forall_mem_cons.mpr ⟨fun x p o4 o5 o6 o8 o10 => ⟨_, C3_34_0_0 x p o4 o5 o6 o8 o10⟩, (List.forall_mem_cons.mpr ⟨fun x p o4 o5 o6 o8 o10 => ⟨_, C3_34_0_1 x p o4 o5 o6 o8 o10⟩, (fun _ h => nomatch h)⟩)⟩), (fun _ h => nomatch h)⟩), D3_34⟩
theorem R4_12 : Good 4 (1, 2) := ⟨[1, 2, 1], [(0, 1), (1, 4), (1, 2), (3, 4), (1, 1)], [(0, 1), (1, 4), (1, 2), (3, 4), (1, 1)], [[1, 1, 1], [1, 2, 1]], ps_4, fun n x p hp hn => ⟨p, _, _, _, hp.mono (by omega), A4_12 x p⟩, L4_12, (List.forall_mem_cons.mpr ⟨(List.forall_mem_cons.mpr ⟨fun x p o4 o5 o6 o8 o10 => ⟨_, C4_12_0_0 x p o4 o5 o6 o8 o10⟩, (List.forall_mem_cons.mpr ⟨fun x p o4 o5 o6 o8 o10 => ⟨_, C4_12_0_1 x p o4 o5 o6 o8 o10⟩, (fun _ h => nomatch h)⟩)⟩), (List.forall_mem_cons.mpr ⟨(List.forall_mem_cons.mpr ⟨fun x p o4 o5 o6 o8 o10 => ⟨_, C4_12_1_0 x p o4 o5 o6 o8 o10⟩, (List.forall_mem_cons.mpr ⟨fun x p o4 o5 o6 o8 o10 => ⟨_, C4_12_1_1 x p o4 o5 o6 o8 o10⟩, (fun _ h => nomatch h)⟩)⟩), (fun _ h => nomatch h)⟩)⟩), D4_12⟩
theorem R4_13 : Good 4 (1, 3) := ⟨[1, 2, 1], [(0, 1), (1, 9), (1, 3), (5, 9), (1, 1)], [(0, 1), (1, 4), (1, 2), (3, 4), (1, 1)], [[1, 1, 1], [1, 2, 1]], ps_4, fun n x p hp hn => ⟨p, _, _, _, hp.mono (by omega), A4_13 x p⟩, L4_13, (List.forall_mem_cons.mpr ⟨(List.forall_mem_cons.mpr ⟨fun x p o4 o5 o6 o8 o10 => ⟨_, C4_13_0_0 x p o4 o5 o6 o8 o10⟩, (List.forall_mem_cons.mpr ⟨fun x p o4 o5 o6 o8 o10 => ⟨_, C4_13_0_1 x p o4 o5 o6 o8 o10⟩, (fun _ h => nomatch h)⟩)⟩), (List.forall_mem_cons.mpr ⟨(List.forall_mem_cons.mpr ⟨fun x p o4 o5 o6 o8 o10 => ⟨_, C4_13_1_0 x p o4 o5 o6 o8 o10⟩, (List.forall_mem_cons.mpr ⟨fun x p o4 o5 o6 o8 o10 => ⟨_, C4_13_1_1 x p o4 o5 o6 o8 o10⟩, (fun _ h => nomatch h)⟩)⟩), (fun _ h => nomatch h)⟩)⟩), D4_13⟩
theorem R4_23 : Good 4 (2, 3) := ⟨[1, 1, 1], [(0, 1), (8, 15), (4, 5), (14, 15), (1, 1)], [(0, 1), (1, 4), (1, 2), (3, 4), (1, 1)], [[1, 1, 1], [1, 2, 1]], ps_4, fun n x p hp hn => ⟨p, _, _, _, hp.mono (by omega), A4_23 x p⟩, L4_23, (List.forall_mem_cons.mpr ⟨(List.forall_mem_cons.mpr ⟨fun x p o4 o5 o6 o8 o10 => ⟨_, C4_23_0_0 x p o4 o5 o6 o8 o10⟩, (List.forall_mem_cons.mpr ⟨fun x p o4 o5 o6 o8 o10 => ⟨_, C4_23_0_1 x p o4 o5 o6 o8 o10⟩, (fun _ h => nomatch h)⟩)⟩), (List.forall_mem_cons.mpr ⟨(List.forall_mem_cons.mpr ⟨fun x p o4 o5 o6 o8 o10 => ⟨_, C4_23_1_0 x p o4 o5 o6 o8 o10⟩, (List.forall_mem_cons.mpr ⟨fun x p o4 o5 o6 o8 o10 => ⟨_, C4_23_1_1 x p o4 o5 o6 o8 o10⟩, (fun _ h => nomatch h)⟩)⟩), (fun _ h => nomatch h)⟩)⟩), D4_23⟩
theorem R4_25 : Good 4 (2, 5) := ⟨[1, 2, 1], [(0, 1), (4, 25), (2, 5), (16, 25), (1, 1)], [(0, 1), (1, 4), (1, 2), (3, 4), (1, 1)], [[1, 1, 1], [1, 2, 1]], ps_4, fun n x p hp hn => ⟨p, _, _, _, hp.mono (by omega), A4_25 x p⟩, L4_25, (List.forall_mem_cons.mpr ⟨(List.forall_mem_cons.mpr ⟨fun x p o4 o5 o6 o8 o10 => ⟨_, C4_25_0_0 x p o4 o5 o6 o8 o10⟩, (List.forall_mem_cons.mpr ⟨fun x p o4 o5 o6 o8 o10 => ⟨_, C4_25_0_1 x p o4 o5 o6 o8 o10⟩, (fun _ h => nomatch h)⟩)⟩), (List.forall_mem_cons.mpr ⟨(List.forall_mem_cons.mpr ⟨fun x p o4 o5 o6 o8 o10 => ⟨_, C4_25_1_0 x p o4 o5 o6 o8 o10⟩, (List.forall_mem_cons.mpr ⟨fun x p o4 o5 o6 o8 o10 => ⟨_, C4_25_1_1 x p o4 o5 o6 o8 o10⟩, (fun _ h => nomatch h)⟩)⟩), (fun _ h => nomatch h)⟩)⟩), D4_25⟩
theorem R4_34 : Good 4 (3, 4) := ⟨[1, 1, 1], [(0, 1), (27, 40), (9, 10), (39, 40), (1, 1)], [(0, 1), (1, 4), (1, 2), (3, 4), (1, 1)], [[1, 1, 1], [1, 2, 1]], ps_4, fun n x p hp hn => ⟨p, _, _, _, hp.mono (by omega), A4_34 x p⟩, L4_34, (List.forall_mem_cons.mpr ⟨(List.forall_mem_cons.mpr ⟨fun x p o4 o5 o6 o8 o10 => ⟨_, C4_34_0_0 x p o4 o5 o6 o8 o10⟩, (List.forall_mem_cons.mpr ⟨fun x p o4 o5 o6 o8 o10 => ⟨_, C4_34_0_1 x p o4 o5 o6 o8 o10⟩, (fun _ h => nomatch h)⟩)⟩), (List.forall_mem_cons.mpr ⟨(List.forall_mem_cons.mpr ⟨fun x p o4 o5 o6 o8 o10 => ⟨_, C4_34_1_0 x p o4 o5 o6 o8 o10⟩, (List.forall_mem_cons.mpr ⟨fun x p o4 o5 o6 o8 o10 => ⟨_, C4_34_1_1 x p o4 o5 o6 o8 o10⟩, (fun _ h => nomatch h)⟩)⟩), (fun _ h => nomatch h)⟩)⟩), D4_34⟩
theorem R5_12 : Good 5 (1, 2) := ⟨[1, 2, 2, 1], [(0, 1), (1, 5), (2, 5), (3, 5), (4, 5), (1, 1)], [(0, 1), (1, 5), (2, 5), (3, 5), (4, 5), (1, 1)], [[1, 1, 1, 1], [1, 1, 2, 1], [1, 2, 1, 1], [1, 2, 2, 1]], ps_5, fun n x p hp hn => ⟨p, _, _, _, hp.mono (by omega), A5_12 x p⟩, L5_12, (List.forall_mem_cons.mpr ⟨(List.forall_mem_cons.mpr ⟨fun x p o4 o5 o6 o8 o10 => ⟨_, C5_12_0_0 x p o4 o5 o6 o8 o10⟩, (List.forall_mem_cons.mpr ⟨fun x p o4 o5 o6 o8 o10 => ⟨_, C5_12_0_1 x p o4 o5 o6 o8 o10⟩, (fun _ h => nomatch h)⟩)⟩), (List.forall_mem_cons.mpr ⟨(List.forall_mem_cons.mpr ⟨fun x p o4 o5 o6 o8 o10 => ⟨_, C5_12_1_0 x p o4 o5 o6 o8 o10⟩, (List.forall_mem_cons.mpr ⟨fun x p o4 o5 o6 o8 o10 => ⟨_, C5_12_1_1 x p o4 o5 o6 o8 o10⟩, (fun _ h => nomatch h)⟩)⟩), (List.forall_mem_cons.mpr ⟨(List.forall_mem_cons.mpr ⟨fun x p o4 o5 o6 o8 o10 => ⟨_, C5_12_2_0 x p o4 o5 o6 o8 o10⟩, (List.forall_mem_cons.mpr ⟨fun x p o4 o5 o6 o8 o10 => ⟨_, C5_12_2_1 x p o4 o5 o6 o8 o10⟩, (fun _ h => nomatch h)⟩)⟩), (List.forall_mem_cons.mpr ⟨(List.forall_mem_cons.mpr ⟨fun x p o4 o5 o6 o8 o10 => ⟨_, C5_12_3_0 x p o4 o5 o6 o8 o10⟩, (List.forall_mem_cons.mpr ⟨fun x p o4 o5 o6 o8 o10 => ⟨_, C5_12_3_1 x p o4 o5 o6 o8 o10⟩, (fun _ h => nomatch h)⟩)⟩), (fun _ h => nomatch h)⟩)⟩)⟩)⟩), D5_12⟩
theorem R5_13 : Good 5 (1, 3) := ⟨[1, 2, 2, 1], [(0, 1), (5, 77), (15, 77), (29, 77), (45, 77), (1, 1)], [(0, 1), (1, 5), (2, 5), (3, 5), (4, 5), (1, 1)], [[1, 1, 1, 1], [1, 1, 2, 1], [1, 2, 1, 1], [1, 2, 2, 1]], ps_5, fun n x p hp hn => ⟨p, _, _, _, hp.mono (by omega), A5_13 x p⟩, L5_13, (List.forall_mem_cons.mpr ⟨(List.forall_mem_cons.mpr ⟨fun x p o4 o5 o6 o8 o10 => ⟨_, C5_13_0_0 x p o4 o5 o6 o8 o10⟩, (List.forall_mem_cons.mpr ⟨fun x p o4 o5 o6 o8 o10 => ⟨_, C5_13_0_1 x p o4 o5 o6 o8 o10⟩, (fun _ h => nomatch h)⟩)⟩), (List.forall_mem_cons.mpr ⟨(List.forall_mem_cons.mpr ⟨fun x p o4 o5 o6 o8 o10 => ⟨_, C5_13_1_0 x p o4 o5 o6 o8 o10⟩, (List.forall_mem_cons.mpr ⟨fun x p o4 o5 o6 o8 o10 => ⟨_, C5_13_1_1 x p o4 o5 o6 o8 o10⟩, (fun _ h => nomatch h)⟩)⟩), (List.forall_mem_cons.mpr ⟨(List.forall_mem_cons.mpr ⟨fun x p o4 o5 o6 o8 o10 => ⟨_, C5_13_2_0 x p o4 o5 o6 o8 o10⟩, (List.forall_mem_cons.mpr ⟨fun x p o4 o5 o6 o8 o10 => ⟨_, C5_13_2_1 x p o4 o5 o6 o8 o10⟩, (fun _ h => nomatch h)⟩)⟩), (List.forall_mem_cons.mpr ⟨(List.forall_mem_cons.mpr ⟨fun x p o4 o5 o6 o8 o10 => ⟨_, C5_13_3_0 x p o4 o5 o6 o8 o10⟩, (List.forall_mem_cons.mpr ⟨fun x p o4 o5 o6 o8 o10 => ⟨_, C5_13_3_1 x p o4 o5 o6 o8 o10⟩, (fun _ h => nomatch h)⟩)⟩), (fun _ h => nomatch h)⟩)⟩)⟩)⟩), D5_13⟩
theorem R5_23 : Good 5 (2, 3) := ⟨[1, 1, 1, 1], [(0, 1), (16, 31), (24, 31), (28, 31), (30, 31), (1, 1)], [(0, 1), (1, 5), (2, 5), (3, 5), (4, 5), (1, 1)], [[1, 1, 1, 1], [1, 1, 2, 1], [1, 2, 1, 1], [1, 2, 2, 1]], ps_5, fun n x p hp hn => ⟨p, _, _, _, hp.mono (by omega), A5_23 x p⟩, L5_23, (List.forall_mem_cons.mpr ⟨(List.forall_mem_cons.mpr ⟨fun x p o4 o5 o6 o8 o10 => ⟨_, C5_23_0_0 x p o4 o5 o6 o8 o10⟩, (List.forall_mem_cons.mpr ⟨fun x p o4 o5 o6 o8 o10 => ⟨_, C5_23_0_1 x p o4 o5 o6 o8 o10⟩, (fun _ h => nomatch h)⟩)⟩), (List.forall_mem_cons.mpr ⟨(List.forall_mem_cons.mpr ⟨fun x p o4 o5 o6 o8 o10 => ⟨_, C5_23_1_0 x p o4 o5 o6 o8 o10⟩, (List.forall_mem_cons.mpr ⟨fun x p o4 o5 o6 o8 o10 => ⟨_, C5_23_1_1 x p o4 o5 o6 o8 o10⟩, (fun _ h => nomatch h)⟩)⟩), (List.forall_mem_cons.mpr ⟨(List.forall_mem_cons.mpr ⟨fun x p o4 o5 o6 o8 o10 => ⟨_, C5_23_2_0 x p o4 o5 o6 o8 o10⟩, (List.forall_mem_cons.mpr ⟨fun x p o4 o5 o6 o8 o10 => ⟨_, C5_23_2_1 x p o4 o5 o6 o8 o10⟩, (fun _ h => nomatch h)⟩)⟩), (List.forall_mem_cons.mpr ⟨(List.forall_mem_cons.mpr ⟨fun x p o4 o5 o6 o8 o10 => ⟨_, C5_23_3_0 x p o4 o5 o6 o8 o10⟩, (List.forall_mem_cons.mpr ⟨fun x p o4 o5 o6 o8 o10 => ⟨_, C5_23_3_1 x p o4 o5 o6 o8 o10⟩, (fun _ h => nomatch h)⟩)⟩), (fun _ h => nomatch h)⟩)⟩)⟩)⟩), D5_23⟩
theorem R5_25 : Good 5 (2, 5) := ⟨[1, 2, 2, 1], [(0, 1), (64, 589), (160, 589), (274, 589), (400, 589), (1, 1)], [(0, 1), (1, 5), (2, 5), (3, 5), (4, 5), (1, 1)], [[1, 1, 1, 1], [1, 1, 2, 1], [1, 2, 1, 1], [1, 2, 2, 1]], ps_5, fun n x p hp hn => ⟨p, _, _, _, hp.mono (by omega), A5_25 x p⟩, L5_25, (List.forall_mem_cons.mpr ⟨(List.forall_mem_cons.mpr ⟨fun x p o4 o5 o6 o8 o10 => ⟨_, C5_25_0_0 x p o4 o5 o6 o8 o10⟩, (List.forall_mem_cons.mpr ⟨fun x p o4 o5 o6 o8 o10 => ⟨_, C5_25_0_1 x p o4 o5 o6 o8 o10⟩, (fun _ h => nomatch h)⟩)⟩), (List.forall_mem_cons.mpr ⟨(List.forall_mem_cons.mpr ⟨fun x p o4 o5 o6 o8 o10 => ⟨_, C5_25_1_0 x p o4 o5 o6 o8 o10⟩, (List.forall_mem_cons.mpr ⟨fun x p o4 o5 o6 o8 o10 => ⟨_, C5_25_1_1 x p o4 o5 o6 o8 o10⟩, (fun _ h => nomatch h)⟩)⟩), (List.forall_mem_cons.mpr ⟨(List.forall_mem_cons.mpr ⟨fun x p o4 o5 o6 o8 o10 => ⟨_, C5_25_2_0 x p o4 o5 o6 o8 o10⟩, (List.forall_mem_cons.mpr ⟨fun x p o4 o5 o6 o8 o10 => ⟨_, C5_25_2_1 x p o4 o5 o6 o8 o10⟩, (fun _ h => nomatch h)⟩)⟩), (List.forall_mem_cons.mpr ⟨(List.forall_mem_cons.mpr ⟨fun x p o4 o5 o6 o8 o10 => ⟨_, C5_25_3_0 x p o4 o5 o6 o8 o10⟩, (List.forall_mem_cons.mpr ⟨fun x p o4 o5 o6 o8 o10 => ⟨_, C5_25_3_1 x p o4 o5 o6 o8 o10⟩, (fun _ h => nomatch h)⟩)⟩), (fun _ h => nomatch h)⟩)⟩)⟩)⟩), D5_25⟩
theorem R5_34 : Good 5 (3, 4) := ⟨[1, 1, 1, 1], [(0, 1), (81, 121), (108, 121), (117, 121), (120, 121), (1, 1)], [(0, 1), (1, 5), (2, 5), (3, 5), (4, 5), (1, 1)], [[1, 1, 1, 1], [1, 1, 2, 1], [1, 2, 1, 1], [1, 2, 2, 1]], ps_5, fun n x p hp hn => ⟨p, _, _, _, hp.mono (by omega), A5_34 x p⟩, L5_34, (List.forall_mem_cons.mpr ⟨(List.forall_mem_cons.mpr ⟨fun x p o4 o5 o6 o8 o10 => ⟨_, C5_34_0_0 x p o4 o5 o6 o8 o10⟩, (List.forall_mem_cons.mpr ⟨fun x p o4 o5 o6 o8 o10 => ⟨_, C5_34_0_1 x p o4 o5 o6 o8 o10⟩, (fun _ h => nomatch h)⟩)⟩), (List.forall_mem_cons.mpr ⟨(List.forall_mem_cons.mpr ⟨fun x p o4 o5 o6 o8 o10 => ⟨_, C5_34_1_0 x p o4 o5 o6 o8 o10⟩, (List.forall_mem_cons.mpr ⟨fun x p o4 o5 o6 o8 o10 => ⟨_, C5_34_1_1 x p o4 o5 o6 o8 o10⟩, (fun _ h => nomatch h)⟩)⟩), (List.forall_mem_cons.mpr ⟨(List.forall_mem_cons.mpr ⟨fun x p o4 o5 o6 o8 o10 => ⟨_, C5_34_2_0 x p o4 o5 o6 o8 o10⟩, (List.forall_mem_cons.mpr ⟨fun x p o4 o5 o6 o8 o10 => ⟨_, C5_34_2_1 x p o4 o5 o6 o8 o10⟩, (fun _ h => nomatch h)⟩)⟩), (List.forall_mem_cons.mpr ⟨(List.forall_mem_cons.mpr ⟨fun x p o4 o5 o6 o8 o10 => ⟨_, C5_34_3_0 x p o4 o5 o6 o8 o10⟩, (List.forall_mem_cons.mpr ⟨fun x p o4 o5 o6 o8 o10 => ⟨_, C5_34_3_1 x p o4 o5 o6 o8 o10⟩, (fun _ h => nomatch h)⟩)⟩), (fun _ h => nomatch h)⟩)⟩)⟩)⟩), D5_34⟩
theorem R6_12 : Good 6 (1, 2) := ⟨[1, 2, 3, 2, 1], [(0, 1), (1, 6), (1, 3), (1, 2), (2, 3), (5, 6), (1, 1)], [(0, 1), (1, 6), (1, 3), (1, 2), (2, 3), (5, 6), (1, 1)], [[1, 1, 1, 1, 1], [1, 1, 1, 2, 1], [1, 1, 2, 1, 1], [1, 1, 2, 2, 1], [1, 1, 3, 1, 1], [1, 1, 3, 2, 1], [1, 2, 1, 1, 1], [1, 2, 1, 2, 1], [1, 2, 2, 1, 1], [1, 2, 2, 2, 1], [1, 2, 3, 1, 1], [1, 2, 3, 2, 1]], ps_6, six ps_6 A6_12 (List.forall_mem_cons.mpr ⟨fun x p o6 o9 => ⟨_, B6_12_0 x p o6 o9⟩, (List.forall_mem_cons.mpr ⟨fun x p o6 o9 => ⟨_, B6_12_1 x p o6 o9⟩, (List.forall_mem_cons.mpr ⟨fun x p o6 o9 => ⟨_, B6_12_2 x p o6 o9⟩, (List.forall_mem_cons.mpr ⟨fun x p o6 o9 => ⟨_, B6_12_3 x p o6 o9⟩, (List.forall_mem_cons.mpr ⟨fun x p o6 o9 => ⟨_, B6_12_4 x p o6 o9⟩, (List.forall_mem_cons.mpr ⟨fun x p o6 o9 => ⟨_, B6_12_5 x p o6 o9⟩, (List.forall_mem_cons.mpr ⟨fun x p o6 o9 => ⟨_, B6_12_6 x p o6 o9⟩, (List.forall_mem_cons.mpr ⟨fun x p o6 o9 => ⟨_, B6_12_7 x p o6 o9⟩, (List.forall_mem_cons.mpr ⟨fun x p o6 o9 => ⟨_, B6_12_8 x p o6 o9⟩, (List.forall_mem_cons.mpr ⟨fun x p o6 o9 => ⟨_, B6_12_9 x p o6 o9⟩, (List.forall_mem_cons.mpr ⟨fun x p o6 o9 => ⟨_, B6_12_10 x p o6 o9⟩, (List.forall_mem_cons.mpr ⟨fun x p o6 o9 => ⟨_, B6_12_11 x p o6 o9⟩, (fun _ h => nomatch h)⟩)⟩)⟩)⟩)⟩)⟩)⟩)⟩)⟩)⟩)⟩)⟩), L6_12, (List.forall_mem_cons.mpr ⟨(List.forall_mem_cons.mpr ⟨fun x p o4 o5 o6 o8 o10 => ⟨_, C6_12_0_0 x p o4 o5 o6 o8 o10⟩, (List.forall_mem_cons.mpr ⟨fun x p o4 o5 o6 o8 o10 => ⟨_, C6_12_0_1 x p o4 o5 o6 o8 o10⟩, (fun _ h => nomatch h)⟩)⟩), (List.forall_mem_cons.mpr ⟨(List.forall_mem_cons.mpr ⟨fun x p o4 o5 o6 o8 o10 => ⟨_, C6_12_1_0 x p o4 o5 o6 o8 o10⟩, (List.forall_mem_cons.mpr ⟨fun x p o4 o5 o6 o8 o10 => ⟨_, C6_12_1_1 x p o4 o5 o6 o8 o10⟩, (fun _ h => nomatch h)⟩)⟩), (List.forall_mem_cons.mpr ⟨(List.forall_mem_cons.mpr ⟨fun x p o4 o5 o6 o8 o10 => ⟨_, C6_12_2_0 x p o4 o5 o6 o8 o10⟩, (List.forall_mem_cons.mpr ⟨fun x p o4 o5 o6 o8 o10 => ⟨_, C6_12_2_1 x p o4 o5 o6 o8 o10⟩, (fun _ h => nomatch h)⟩)⟩), (List.forall_mem_cons.mpr ⟨(List.forall_mem_cons.mpr ⟨fun x p o4 o5 o6 o8 o10 => ⟨_, C6_12_3_0 x p o4 o5 o6 o8 o10⟩, (List.forall_mem_cons.mpr ⟨fun x p o4 o5 o6 o8 o10 => ⟨_, C6_12_3_1 x p o4 o5 o6 o8 o10⟩, (fun _ h => nomatch h)⟩)⟩), (List.forall_mem_cons.mpr ⟨(List.forall_mem_cons.mpr ⟨fun x p o4 o5 o6 o8 o10 => ⟨_, C6_12_4_0 x p o4 o5 o6 o8 o10⟩, (List.forall_mem_cons.mpr ⟨fun x p o4 o5 o6 o8 o10 => ⟨_, C6_12_4_1 x p o4 o5 o6 o8 o10⟩, (fun _ h => nomatch h)⟩)⟩), (List.forall_mem_cons.mpr ⟨(List.forall_mem_cons.mpr ⟨fun x p o4 o5 o6 o8 o10 => ⟨_, C6_12_5_0 x p o4 o5 o6 o8 o10⟩, (List.forall_mem_cons.mpr ⟨fun x p o4 o5 o6 o8 o10 => ⟨_, C6_12_5_1 x p o4 o5 o6 o8 o10⟩, (fun _ h => nomatch h)⟩)⟩), (List.forall_mem_cons.mpr ⟨(List.forall_mem_cons.mpr ⟨fun x p o4 o5 o6 o8 o10 => ⟨_, C6_12_6_0 x p o4 o5 o6 o8 o10⟩, (List.forall_mem_cons.mpr ⟨fun x p o4 o5 o6 o8 o10 => ⟨_, C6_12_6_1 x p o4 o5 o6 o8 o10⟩, (fun _ h => nomatch h)⟩)⟩), (List.forall_mem_cons.mpr ⟨(List.forall_mem_cons.mpr ⟨fun x p o4 o5 o6 o8 o10 => ⟨_, C6_12_7_0 x p o4 o5 o6 o8 o10⟩, (List.forall_mem_cons.mpr ⟨fun x p o4 o5 o6 o8 o10 => ⟨_, C6_12_7_1 x p o4 o5 o6 o8 o10⟩, (fun _ h => nomatch h)⟩)⟩), (List.forall_mem_cons.mpr ⟨(List.forall_mem_cons.mpr ⟨fun x p o4 o5 o6 o8 o10 => ⟨_, C6_12_8_0 x p o4 o5 o6 o8 o10⟩, (List.forall_mem_cons.mpr ⟨fun x p o4 o5 o6 o8 o10 => ⟨_, C6_12_8_1 x p o4 o5 o6 o8 o10⟩, (fun _ h => nomatch h)⟩)⟩), (List.forall_mem_cons.mpr ⟨(List.forall_mem_cons.mpr ⟨fun x p o4 o5 o6 o8 o10 => ⟨_, C6_12_9_0 x p o4 o5 o6 o8 o10⟩, (List.forall_mem_cons.mpr ⟨fun x p o4 o5 o6 o8 o10 => ⟨_, C6_12_9_1 x p o4 o5 o6 o8 o10⟩, (fun _ h => nomatch h)⟩)⟩), (List.forall_mem_cons.mpr ⟨(List.forall_mem_cons.mpr ⟨fun x p o4 o5 o6 o8 o10 => ⟨_, C6_12_10_0 x p o4 o5 o6 o8 o10⟩, (List.forall_mem_cons.mpr ⟨fun x p o4 o5 o6 o8 o10 => ⟨_, C6_12_10_1 x p o4 o5 o6 o8 o10⟩, (fun _ h => nomatch h)⟩)⟩), (List.forall_mem_cons.mpr ⟨(List.forall_mem_cons.mpr ⟨fun x p o4 o5 o6 o8 o10 => ⟨_, C6_12_11_0 x p o4 o5 o6 o8 o10⟩, (List.forall_mem_cons.mpr ⟨fun x p o4 o5 o6 o8 o10 => ⟨_, C6_12_11_1 x p o4 o5 o6 o8 o10⟩, (fun _ h => nomatch h)⟩)⟩), (fun _ h => nomatch h)⟩)⟩)⟩)⟩)⟩)⟩)⟩)⟩)⟩)⟩)⟩)⟩), D6_12⟩
theorem R6_13 : Good 6 (1, 3) := ⟨[1, 2, 3, 2, 1], [(0, 1), (1, 21), (1, 7), (1, 3), (3, 7), (13, 21), (1, 1)], [(0, 1), (1, 6), (1, 3), (1, 2), (2, 3), (5, 6), (1, 1)], [[1, 1, 1, 1, 1], [1, 1, 1, 2, 1], [1, 1, 2, 1, 1], [1, 1, 2, 2, 1], [1, 1, 3, 1, 1], [1, 1, 3, 2, 1], [1, 2, 1, 1, 1], [1, 2, 1, 2, 1], [1, 2, 2, 1, 1], [1, 2, 2, 2, 1], [1, 2, 3, 1, 1], [1, 2, 3, 2, 1]], ps_6, six ps_6 A6_13 (List.forall_mem_cons.mpr ⟨fun x p o6 o9 => ⟨_, B6_13_0 x p o6 o9⟩, (List.forall_mem_cons.mpr ⟨fun x p o6 o9 => ⟨_, B6_13_1 x p o6 o9⟩, (List.forall_mem_cons.mpr ⟨fun x p o6 o9 => ⟨_, B6_13_2 x p o6 o9⟩, (List.forall_mem_cons.mpr ⟨fun x p o6 o9 => ⟨_, B6_13_3 x p o6 o9⟩, (List.forall_mem_cons.mpr ⟨fun x p o6 o9 => ⟨_, B6_13_4 x p o6 o9⟩, (List.forall_mem_cons.mpr ⟨fun x p o6 o9 => ⟨_, B6_13_5 x p o6 o9⟩, (List.forall_mem_cons.mpr ⟨fun x p o6 o9 => ⟨_, B6_13_6 x p o6 o9⟩, (List.forall_mem_cons.mpr ⟨fun x p o6 o9 => ⟨_, B6_13_7 x p o6 o9⟩, (List.forall_mem_cons.mpr ⟨fun x p o6 o9 => ⟨_, B6_13_8 x p o6 o9⟩, (List.forall_mem_cons.mpr ⟨fun x p o6 o9 => ⟨_, B6_13_9 x p o6 o9⟩, (List.forall_mem_cons.mpr ⟨fun x p o6 o9 => ⟨_, B6_13_10 x p o6 o9⟩, (List.forall_mem_cons.mpr ⟨fun x p o6 o9 => ⟨_, B6_13_11 x p o6 o9⟩, (fun _ h => nomatch h)⟩)⟩)⟩)⟩)⟩)⟩)⟩)⟩)⟩)⟩)⟩)⟩), L6_13, (List.forall_mem_cons.mpr ⟨(List.forall_mem_cons.mpr ⟨fun x p o4 o5 o6 o8 o10 => ⟨_, C6_13_0_0 x p o4 o5 o6 o8 o10⟩, (List.forall_mem_cons.mpr ⟨fun x p o4 o5 o6 o8 o10 => ⟨_, C6_13_0_1 x p o4 o5 o6 o8 o10⟩, (fun _ h => nomatch h)⟩)⟩), (List.forall_mem_cons.mpr ⟨(List.forall_mem_cons.mpr ⟨fun x p o4 o5 o6 o8 o10 => ⟨_, C6_13_1_0 x p o4 o5 o6 o8 o10⟩, (List.forall_mem_cons.mpr ⟨fun x p o4 o5 o6 o8 o10 => ⟨_, C6_13_1_1 x p o4 o5 o6 o8 o10⟩, (fun _ h => nomatch h)⟩)⟩), (List.forall_mem_cons.mpr ⟨(List.forall_mem_cons.mpr ⟨fun x p o4 o5 o6 o8 o10 => ⟨_, C6_13_2_0 x p o4 o5 o6 o8 o10⟩, (List.forall_mem_cons.mpr ⟨fun x p o4 o5 o6 o8 o10 => ⟨_, C6_13_2_1 x p o4 o5 o6 o8 o10⟩, (fun _ h => nomatch h)⟩)⟩), (List.forall_mem_cons.mpr ⟨(List.forall_mem_cons.mpr ⟨fun x p o4 o5 o6 o8 o10 => ⟨_, C6_13_3_0 x p o4 o5 o6 o8 o10⟩, (List.forall_mem_cons.mpr ⟨fun x p o4 o5 o6 o8 o10 => ⟨_, C6_13_3_1 x p o4 o5 o6 o8 o10⟩, (fun _ h => nomatch h)⟩)⟩), (List.forall_mem_cons.mpr ⟨(List.forall_mem_cons.mpr ⟨fun x p o4 o5 o6 o8 o10 => ⟨_, C6_13_4_0 x p o4 o5 o6 o8 o10⟩, (List.forall_mem_cons.mpr ⟨fun x p o4 o5 o6 o8 o10 => ⟨_, C6_13_4_1 x p o4 o5 o6 o8 o10⟩, (fun _ h => nomatch h)⟩)⟩), (List.forall_mem_cons.mpr ⟨(List.forall_mem_cons.mpr ⟨fun x p o4 o5 o6 o8 o10 => ⟨_, C6_13_5_0 x p o4 o5 o6 o8 o10⟩, (List.forall_mem_cons.mpr ⟨fun x p o4 o5 o6 o8 o10 => ⟨_, C6_13_5_1 x p o4 o5 o6 o8 o10⟩, (fun _ h => nomatch h)⟩)⟩), (List.forall_mem_cons.mpr ⟨(List.forall_mem_cons.mpr ⟨fun x p o4 o5 o6 o8 o10 => ⟨_, C6_13_6_0 x p o4 o5 o6 o8 o10⟩, (List.forall_mem_cons.mpr ⟨fun x p o4 o5 o6 o8 o10 => ⟨_, C6_13_6_1 x p o4 o5 o6 o8 o10⟩, (fun _ h => nomatch h)⟩)⟩), (List.forall_mem_cons.mpr ⟨(List.forall_mem_cons.mpr ⟨fun x p o4 o5 o6 o8 o10 => ⟨_, C6_13_7_0 x p o4 o5 o6 o8 o10⟩, (List.forall_mem_cons.mpr ⟨fun x p o4 o5 o6 o8 o10 => ⟨_, C6_13_7_1 x p o4 o5 o6 o8 o10⟩, (fun _ h => nomatch h)⟩)⟩), (List.forall_mem_cons.mpr ⟨(List.forall_mem_cons.mpr ⟨fun x p o4 o5 o6 o8 o10 => ⟨_, C6_13_8_0 x p o4 o5 o6 o8 o10⟩, (List.forall_mem_cons.mpr ⟨fun x p o4 o5 o6 o8 o10 => ⟨_, C6_13_8_1 x p o4 o5 o6 o8 o10⟩, (fun _ h => nomatch h)⟩)⟩), (List.forall_mem_cons.mpr ⟨(List.forall_mem_cons.mpr ⟨fun x p o4 o5 o6 o8 o10 => ⟨_, C6_13_9_0 x p o4 o5 o6 o8 o10⟩, (List.forall_mem_cons.mpr ⟨fun x p o4 o5 o6 o8 o10 => ⟨_, C6_13_9_1 x p o4 o5 o6 o8 o10⟩, (fun _ h => nomatch h)⟩)⟩), (List.forall_mem_cons.mpr ⟨(List.forall_mem_cons.mpr ⟨fun x p o4 o5 o6 o8 o10 => ⟨_, C6_13_10_0 x p o4 o5 o6 o8 o10⟩, (List.forall_mem_cons.mpr ⟨fun x p o4 o5 o6 o8 o10 => ⟨_, C6_13_10_1 x p o4 o5 o6 o8 o10⟩, (fun _ h => nomatch h)⟩)⟩), (List.forall_mem_cons.mpr ⟨(List.forall_mem_cons.mpr ⟨fun x p o4 o5 o6 o8 o10 => ⟨_, C6_13_11_0 x p o4 o5 o6 o8 o10⟩, (List.forall_mem_cons.mpr ⟨fun x p o4 o5 o6 o8 o10 => ⟨_, C6_13_11_1 x p o4 o5 o6 o8 o10⟩, (fun _ h => nomatch h)⟩)⟩), (fun _ h => nomatch h)⟩)⟩)⟩)⟩)⟩)⟩)⟩)⟩)⟩)⟩)⟩)⟩), D6_13⟩
theorem R6_23 : Good 6 (2, 3) := ⟨[1, 1, 1, 1, 1], [(0, 1), (32, 63), (16, 21), (8, 9), (20, 21), (62, 63), (1, 1)], [(0, 1), (1, 6), (1, 3), (1, 2), (2, 3), (5, 6), (1, 1)], [[1, 1, 1, 1, 1], [1, 1, 1, 2, 1], [1, 1, 2, 1, 1], [1, 1, 2, 2, 1], [1, 1, 3, 1, 1], [1, 1, 3, 2, 1], [1, 2, 1, 1, 1], [1, 2, 1, 2, 1], [1, 2, 2, 1, 1], [1, 2, 2, 2, 1], [1, 2, 3, 1, 1], [1, 2, 3, 2, 1]], ps_6, six ps_6 A6_23 (List.forall_mem_cons.mpr ⟨fun x p o6 o9 => ⟨_, B6_23_0 x p o6 o9⟩, (List.forall_mem_cons.mpr ⟨fun x p o6 o9 => ⟨_, B6_23_1 x p o6 o9⟩, (List.forall_mem_cons.mpr ⟨fun x p o6 o9 => ⟨_, B6_23_2 x p o6 o9⟩, (List.forall_mem_cons.mpr ⟨fun x p o6 o9 => ⟨_, B6_23_3 x p o6 o9⟩, (List.forall_mem_cons.mpr ⟨fun x p o6 o9 => ⟨_, B6_23_4 x p o6 o9⟩, (List.forall_mem_cons.mpr ⟨fun x p o6 o9 => ⟨_, B6_23_5 x p o6 o9⟩, (List.forall_mem_cons.mpr ⟨fun x p o6 o9 => ⟨_, B6_23_6 x p o6 o9⟩, (List.forall_mem_cons.mpr ⟨fun x p o6 o9 => ⟨_, B6_23_7 x p o6 o9⟩, (List.forall_mem_cons.mpr ⟨fun x p o6 o9 => ⟨_, B6_23_8 x p o6 o9⟩, (List.forall_mem_cons.mpr ⟨fun x p o6 o9 => ⟨_, B6_23_9 x p o6 o9⟩, (List.forall_mem_cons.mpr ⟨fun x p o6 o9 => ⟨_, B6_23_10 x p o6 o9⟩, (List.forall_mem_cons.mpr ⟨fun x p o6 o9 => ⟨_, B6_23_11 x p o6 o9⟩, (fun _ h => nomatch h)⟩)⟩)⟩)⟩)⟩)⟩)⟩)⟩)⟩)⟩)⟩)⟩), L6_23, (List.forall_mem_cons.mpr ⟨(List.forall_mem_cons.mpr ⟨fun x p o4 o5 o6 o8 o10 => ⟨_, C6_23_0_0 x p o4 o5 o6 o8 o10⟩, (List.forall_mem_cons.mpr ⟨fun x p o4 o5 o6 o8 o10 => ⟨_, C6_23_0_1 x p o4 o5 o6 o8 o10⟩, (fun _ h => nomatch h)⟩)⟩), (List.forall_mem_cons.mpr ⟨(List.forall_mem_cons.mpr ⟨fun x p o4 o5 o6 o8 o10 => ⟨_, C6_23_1_0 x p o4 o5 o6 o8 o10⟩, (List.forall_mem_cons.mpr ⟨fun x p o4 o5 o6 o8 o10 => ⟨_, C6_23_1_1 x p o4 o5 o6 o8 o10⟩, (fun _ h => nomatch h)⟩)⟩), (List.forall_mem_cons.mpr ⟨(List.forall_mem_cons.mpr ⟨fun x p o4 o5 o6 o8 o10 => ⟨_, C6_23_2_0 x p o4 o5 o6 o8 o10⟩, (List.forall_mem_cons.mpr ⟨fun x p o4 o5 o6 o8 o10 => ⟨_, C6_23_2_1 x p o4 o5 o6 o8 o10⟩, (fun _ h => nomatch h)⟩)⟩), (List.forall_mem_cons.mpr ⟨(List.forall_mem_cons.mpr ⟨fun x p o4 o5 o6 o8 o10 => ⟨_, C6_23_3_0 x p o4 o5 o6 o8 o10⟩, (List.forall_mem_cons.mpr ⟨fun x p o4 o5 o6 o8 o10 => ⟨_, C6_23_3_1 x p o4 o5 o6 o8 o10⟩, (fun _ h => nomatch h)⟩)⟩), (List.forall_mem_cons.mpr ⟨(List.forall_mem_cons.mpr ⟨fun x p o4 o5 o6 o8 o10 => ⟨_, C6_23_4_0 x p o4 o5 o6 o8 o10⟩, (List.forall_mem_cons.mpr ⟨fun x p o4 o5 o6 o8 o10 => ⟨_, C6_23_4_1 x p o4 o5 o6 o8 o10⟩, (fun _ h => nomatch h)⟩)⟩), (List.forall_mem_cons.mpr ⟨(List.forall_mem_cons.mpr ⟨fun x p o4 o5 o6 o8 o10 => ⟨_, C6_23_5_0 x p o4 o5 o6 o8 o10⟩, (List.forall_mem_cons.mpr ⟨fun x p o4 o5 o6 o8 o10 => ⟨_, C6_23_5_1 x p o4 o5 o6 o8 o10⟩, (fun _ h => nomatch h)⟩)⟩), (List.forall_mem_cons.mpr ⟨(List.forall_mem_cons.mpr ⟨fun x p o4 o5 o6 o8 o10 => ⟨_, C6_23_6_0 x p o4 o5 o6 o8 o10⟩, (List.forall_mem_cons.mpr ⟨fun x p o4 o5 o6 o8 o10 => ⟨_, C6_23_6_1 x p o4 o5 o6 o8 o10⟩, (fun _ h => nomatch h)⟩)⟩), (List.forall_mem_cons.mpr ⟨(List.forall_mem_cons.mpr ⟨fun x p o4 o5 o6 o8 o10 => ⟨_, C6_23_7_0 x p o4 o5 o6 o8 o10⟩, (List.forall_mem_cons.mpr ⟨fun x p o4 o5 o6 o8 o10 => ⟨_, C6_23_7_1 x p o4 o5 o6 o8 o10⟩, (fun _ h => nomatch h)⟩)⟩), (List.forall_mem_cons.mpr ⟨(List.forall_mem_cons.mpr ⟨fun x p o4 o5 o6 o8 o10 => ⟨_, C6_23_8_0 x p o4 o5 o6 o8 o10⟩, (List.forall_mem_cons.mpr ⟨fun x p o4 o5 o6 o8 o10 => ⟨_, C6_23_8_1 x p o4 o5 o6 o8 o10⟩, (fun _ h => nomatch h)⟩)⟩), (List.forall_mem_cons.mpr ⟨(List.forall_mem_cons.mpr ⟨fun x p o4 o5 o6 o8 o10 => ⟨_, C6_23_9_0 x p o4 o5 o6 o8 o10⟩, (List.forall_mem_cons.mpr ⟨fun x p o4 o5 o6 o8 o10 => ⟨_, C6_23_9_1 x p o4 o5 o6 o8 o10⟩, (fun _ h => nomatch h)⟩)⟩), (List.forall_mem_cons.mpr ⟨(List.forall_mem_cons.mpr ⟨fun x p o4 o5 o6 o8 o10 => ⟨_, C6_23_10_0 x p o4 o5 o6 o8 o10⟩, (List.forall_mem_cons.mpr ⟨fun x p o4 o5 o6 o8 o10 => ⟨_, C6_23_10_1 x p o4 o5 o6 o8 o10⟩, (fun _ h => nomatch h)⟩)⟩), (List.forall_mem_cons.mpr ⟨(List.forall_mem_cons.mpr ⟨fun x p o4 o5 o6 o8 o10 => ⟨_, C6_23_11_0 x p o4 o5 o6 o8 o10⟩, (List.forall_mem_cons.mpr ⟨fun x p o4 o5 o6 o8 o10 => ⟨_, C6_23_11_1 x p o4 o5 o6 o8 o10⟩, (fun _ h => nomatch h)⟩)⟩), (fun _ h => nomatch h)⟩)⟩)⟩)⟩)⟩)⟩)⟩)⟩)⟩)⟩)⟩)⟩), D6_23⟩
theorem R6_25 : Good 6 (2, 5) := ⟨[1, 2, 3, 2, 1], [(0, 1), (8, 95), (4, 19), (2, 5), (10, 19), (68, 95), (1, 1)], [(0, 1), (1, 6), (1, 3), (1, 2), (2, 3), (5, 6), (1, 1)], [[1, 1, 1, 1, 1], [1, 1, 1, 2, 1], [1, 1, 2, 1, 1], [1, 1, 2, 2, 1], [1, 1, 3, 1, 1], [1, 1, 3, 2, 1], [1, 2, 1, 1, 1], [1, 2, 1, 2, 1], [1, 2, 2, 1, 1], [1, 2, 2, 2, 1], [1, 2, 3, 1, 1], [1, 2, 3, 2, 1]], ps_6, six ps_6 A6_25 (List.forall_mem_cons.mpr ⟨fun x p o6 o9 => ⟨_, B6_25_0 x p o6 o9⟩, (List.forall_mem_cons.mpr ⟨fun x p o6 o9 => ⟨_, B6_25_1 x p o6 o9⟩, (List.forall_mem_cons.mpr ⟨fun x p o6 o9 => ⟨_, B6_25_2 x p o6 o9⟩, (List.forall_mem_cons.mpr ⟨fun x p o6 o9 => ⟨_, B6_25_3 x p o6 o9⟩, (List.forall_mem_cons.mpr ⟨fun x p o6 o9 => ⟨_, B6_25_4 x p o6 o9⟩, (List.forall_mem_cons.mpr ⟨fun x p o6 o9 => ⟨_, B6_25_5 x p o6 o9⟩, (List.forall_mem_cons.mpr ⟨fun x p o6 o9 => ⟨_, B6_25_6 x p o6 o9⟩, (List.forall_mem_cons.mpr ⟨fun x p o6 o9 => ⟨_, B6_25_7 x p o6 o9⟩, (List.forall_mem_cons.mpr ⟨fun x p o6 o9 => ⟨_, B6_25_8 x p o6 o9⟩, (List.forall_mem_cons.mpr ⟨fun x p o6 o9 => ⟨_, B6_25_9 x p o6 o9⟩, (List.forall_mem_cons.mpr ⟨fun x p o6 o9 => ⟨_, B6_25_10 x p o6 o9⟩, (List.forall_mem_cons.mpr ⟨fun x p o6 o9 => ⟨_, B6_25_11 x p o6 o9⟩, (fun _ h => nomatch h)⟩)⟩)⟩)⟩)⟩)⟩)⟩)⟩)⟩)⟩)⟩)⟩), L6_25, (List.forall_mem_cons.mpr ⟨(List.forall_mem_cons.mpr ⟨fun x p o4 o5 o6 o8 o10 => ⟨_, C6_25_0_0 x p o4 o5 o6 o8 o10⟩, (List.forall_mem_cons.mpr ⟨fun x p o4 o5 o6 o8 o10 => ⟨_, C6_25_0_1 x p o4 o5 o6 o8 o10⟩, (fun _ h => nomatch h)⟩)⟩), (List.forall_mem_cons.mpr ⟨(List.forall_mem_cons.mpr ⟨fun x p o4 o5 o6 o8 o10 => ⟨_, C6_25_1_0 x p o4 o5 o6 o8 o10⟩, (List.forall_mem_cons.mpr ⟨fun x p o4 o5 o6 o8 o10 => ⟨_, C6_25_1_1 x p o4 o5 o6 o8 o10⟩, (fun _ h => nomatch h)⟩)⟩), (List.forall_mem_cons.mpr ⟨(List.forall_mem_cons.mpr ⟨fun x p o4 o5 o6 o8 o10 => ⟨_, C6_25_2_0 x p o4 o5 o6 o8 o10⟩, (List.forall_mem_cons.mpr ⟨fun x p o4 o5 o6 o8 o10 => ⟨_, C6_25_2_1 x p o4 o5 o6 o8 o10⟩, (fun _ h => nomatch h)⟩)⟩), (List.forall_mem_cons.mpr ⟨(List.forall_mem_cons.mpr ⟨fun x p o4 o5 o6 o8 o10 => ⟨_, C6_25_3_0 x p o4 o5 o6 o8 o10⟩, (List.forall_mem_cons.mpr ⟨fun x p o4 o5 o6 o8 o10 => ⟨_, C6_25_3_1 x p o4 o5 o6 o8 o10⟩, (fun _ h => nomatch h)⟩)⟩), (List.forall_mem_cons.mpr ⟨(List.forall_mem_cons.mpr ⟨fun x p o4 o5 o6 o8 o10 => ⟨_, C6_25_4_0 x p o4 o5 o6 o8 o10⟩, (List.forall_mem_cons.mpr ⟨fun x p o4 o5 o6 o8 o10 => ⟨_, C6_25_4_1 x p o4 o5 o6 o8 o10⟩, (fun _ h => nomatch h)⟩)⟩), (List.forall_mem_cons.mpr ⟨(List.forall_mem_cons.mpr ⟨fun x p o4 o5 o6 o8 o10 => ⟨_, C6_25_5_0 x p o4 o5 o6 o8 o10⟩, (List.forall_mem_cons.mpr ⟨fun x p o4 o5 o6 o8 o10 => ⟨_, C6_25_5_1 x p o4 o5 o6 o8 o10⟩, (fun _ h => nomatch h)⟩)⟩), (List.forall_mem_cons.mpr ⟨(List.forall_mem_cons.mpr ⟨fun x p o4 o5 o6 o8 o10 => ⟨_, C6_25_6_0 x p o4 o5 o6 o8 o10⟩, (List.forall_mem_cons.mpr ⟨fun x p o4 o5 o6 o8 o10 => ⟨_, C6_25_6_1 x p o4 o5 o6 o8 o10⟩, (fun _ h => nomatch h)⟩)⟩), (List.forall_mem_cons.mpr ⟨(List.forall_mem_cons.mpr ⟨fun x p o4 o5 o6 o8 o10 => ⟨_, C6_25_7_0 x p o4 o5 o6 o8 o10⟩, (List.forall_mem_cons.mpr ⟨fun x p o4 o5 o6 o8 o10 => ⟨_, C6_25_7_1 x p o4 o5 o6 o8 o10⟩, (fun _ h => nomatch h)⟩)⟩), (List.forall_mem_cons.mpr ⟨(List.forall_mem_cons.mpr ⟨fun x p o4 o5 o6 o8 o10 => ⟨_, C6_25_8_0 x p o4 o5 o6 o8 o10⟩, (List.forall_mem_cons.mpr ⟨fun x p o4 o5 o6 o8 o10 => ⟨_, C6_25_8_1 x p o4 o5 o6 o8 o10⟩, (fun _ h => nomatch h)⟩)⟩), (List.forall_mem_cons.mpr ⟨(List.forall_mem_cons.mpr ⟨fun x p o4 o5 o6 o8 o10 => ⟨_, C6_25_9_0 x p o4 o5 o6 o8 o10⟩, (List.forall_mem_cons.mpr ⟨fun x p o4 o5 o6 o8 o10 => ⟨_, C6_25_9_1 x p o4 o5 o6 o8 o10⟩, (fun _ h => nomatch h)⟩)⟩), (List.forall_mem_cons.mpr ⟨(List.forall_mem_cons.mpr ⟨fun x p o4 o5 o6 o8 o10 => ⟨_, C6_25_10_0 x p o4 o5 o6 o8 o10⟩, (List.forall_mem_cons.mpr ⟨fun x p o4 o5 o6 o8 o10 => ⟨_, C6_25_10_1 x p o4 o5 o6 o8 o10⟩, (fun _ h => nomatch h)⟩)⟩), (List.forall_mem_cons.mpr ⟨(List.forall_mem_cons.mpr ⟨fun x p o4 o5 o6 o8 o10 => ⟨_, C6_25_11_0 x p o4 o5 o6 o8 o10⟩, (List.forall_mem_cons.mpr ⟨fun x p o4 o5 o6 o8 o10 => ⟨_, C6_25_11_1 x p o4 o5 o6 o8 o10⟩, (fun _ h => nomatch h)⟩)⟩), (fun _ h => nomatch h)⟩)⟩)⟩)⟩)⟩)⟩)⟩)⟩)⟩)⟩)⟩)⟩), D6_25⟩
theorem R6_34 : Good 6 (3, 4) := ⟨[1, 1, 1, 1, 1], [(0, 1), (243, 364), (81, 91), (27, 28), (90, 91), (363, 364), (1, 1)], [(0, 1), (1, 6), (1, 3), (1, 2), (2, 3), (5, 6), (1, 1)], [[1, 1, 1, 1, 1], [1, 1, 1, 2, 1], [1, 1, 2, 1, 1], [1, 1, 2, 2, 1], [1, 1, 3, 1, 1], [1, 1, 3, 2, 1], [1, 2, 1, 1, 1], [1, 2, 1, 2, 1], [1, 2, 2, 1, 1], [1, 2, 2, 2, 1], [1, 2, 3, 1, 1], [1, 2, 3, 2, 1]], ps_6, six ps_6 A6_34 (List.forall_mem_cons.mpr ⟨fun x p o6 o9 => ⟨_, B6_34_0 x p o6 o9⟩, (List.forall_mem_cons.mpr ⟨fun x p o6 o9 => ⟨_, B6_34_1 x p o6 o9⟩, (List.forall_mem_cons.mpr ⟨fun x p o6 o9 => ⟨_, B6_34_2 x p o6 o9⟩, (List.forall_mem_cons.mpr ⟨fun x p o6 o9 => ⟨_, B6_34_3 x p o6 o9⟩, (List.forall_mem_cons.mpr ⟨fun x p o6 o9 => ⟨_, B6_34_4 x p o6 o9⟩, (List.forall_mem_cons.mpr ⟨fun x p o6 o9 => ⟨_, B6_34_5 x p o6 o9⟩, (List.forall_mem_cons.mpr ⟨fun x p o6 o9 => ⟨_, B6_34_6 x p o6 o9⟩, (List.forall_mem_cons.mpr ⟨fun x p o6 o9 => ⟨_, B6_34_7 x p o6 o9⟩, (List.forall_mem_cons.mpr ⟨fun x p o6 o9 => ⟨_, B6_34_8 x p o6 o9⟩, (List.forall_mem_cons.mpr ⟨fun x p o6 o9 => ⟨_, B6_34_9 x p o6 o9⟩, (List.forall_mem_cons.mpr ⟨fun x p o6 o9 => ⟨_, B6_34_10 x p o6 o9⟩, (List.forall_mem_cons.mpr ⟨fun x p o6 o9 => ⟨_, B6_34_11 x p o6 o9⟩, (fun _ h => nomatch h)⟩)⟩)⟩)⟩)⟩)⟩)⟩)⟩)⟩)⟩)⟩)⟩), L6_34, (List.forall_mem_cons.mpr ⟨(List.forall_mem_cons.mpr ⟨fun x p o4 o5 o6 o8 o10 => ⟨_, C6_34_0_0 x p o4 o5 o6 o8 o10⟩, (List.forall_mem_cons.mpr ⟨fun x p o4 o5 o6 o8 o10 => ⟨_, C6_34_0_1 x p o4 o5 o6 o8 o10⟩, (fun _ h => nomatch h)⟩)⟩), (List.forall_mem_cons.mpr ⟨(List.forall_mem_cons.mpr ⟨fun x p o4 o5 o6 o8 o10 => ⟨_, C6_34_1_0 x p o4 o5 o6 o8 o10⟩, (List.forall_mem_cons.mpr ⟨fun x p o4 o5 o6 o8 o10 => ⟨_, C6_34_1_1 x p o4 o5 o6 o8 o10⟩, (fun _ h => nomatch h)⟩)⟩), (List.forall_mem_cons.mpr ⟨(List.forall_mem_cons.mpr ⟨fun x p o4 o5 o6 o8 o10 => ⟨_, C6_34_2_0 x p o4 o5 o6 o8 o10⟩, (List.forall_mem_cons.mpr ⟨fun x p o4 o5 o6 o8 o10 => ⟨_, C6_34_2_1 x p o4 o5 o6 o8 o10⟩, (fun _ h => nomatch h)⟩)⟩), (List.forall_mem_cons.mpr ⟨(List.forall_mem_cons.mpr ⟨fun x p o4 o5 o6 o8 o10 => ⟨_, C6_34_3_0 x p o4 o5 o6 o8 o10⟩, (List.forall_mem_cons.mpr ⟨fun x p o4 o5 o6 o8 o10 => ⟨_, C6_34_3_1 x p o4 o5 o6 o8 o10⟩, (fun _ h => nomatch h)⟩)⟩), (List.forall_mem_cons.mpr ⟨(List.forall_mem_cons.mpr ⟨fun x p o4 o5 o6 o8 o10 => ⟨_, C6_34_4_0 x p o4 o5 o6 o8 o10⟩, (List.forall_mem_cons.mpr ⟨fun x p o4 o5 o6 o8 o10 => ⟨_, C6_34_4_1 x p o4 o5 o6 o8 o10⟩, (fun _ h => nomatch h)⟩)⟩), (List.forall_mem_cons.mpr ⟨(List.forall_mem_cons.mpr ⟨fun x p o4 o5 o6 o8 o10 => ⟨_, C6_34_5_0 x p o4 o5 o6 o8 o10⟩, (List.forall_mem_cons.mpr ⟨fun x p o4 o5 o6 o8 o10 => ⟨_, C6_34_5_1 x p o4 o5 o6 o8 o10⟩, (fun _ h => nomatch h)⟩)⟩), (List.forall_mem_cons.mpr ⟨(List.forall_mem_cons.mpr ⟨fun x p o4 o5 o6 o8 o10 => ⟨_, C6_34_6_0 x p o4 o5 o6 o8 o10⟩, (List.forall_mem_cons.mpr ⟨fun x p o4 o5 o6 o8 o10 => ⟨_, C6_34_6_1 x p o4 o5 o6 o8 o10⟩, (fun _ h => nomatch h)⟩)⟩), (List.forall_mem_cons.mpr ⟨(List.forall_mem_cons.mpr ⟨fun x p o4 o5 o6 o8 o10 => ⟨_, C6_34_7_0 x p o4 o5 o6 o8 o10⟩, (List.forall_mem_cons.mpr ⟨fun x p o4 o5 o6 o8 o10 => ⟨_, C6_34_7_1 x p o4 o5 o6 o8 o10⟩, (fun _ h => nomatch h)⟩)⟩), (List.forall_mem_cons.mpr ⟨(List.forall_mem_cons.mpr ⟨fun x p o4 o5 o6 o8 o10 => ⟨_, C6_34_8_0 x p o4 o5 o6 o8 o10⟩, (List.forall_mem_cons.mpr ⟨fun x p o4 o5 o6 o8 o10 => ⟨_, C6_34_8_1 x p o4 o5 o6 o8 o10⟩, (fun _ h => nomatch h)⟩)⟩), (List.forall_mem_cons.mpr ⟨(List.forall_mem_cons.mpr ⟨fun x p o4 o5 o6 o8 o10 => ⟨_, C6_34_9_0 x p o4 o5 o6 o8 o10⟩, (List.forall_mem_cons.mpr ⟨fun x p o4 o5 o6 o8 o10 => ⟨_, C6_34_9_1 x p o4 o5 o6 o8 o10⟩, (fun _ h => nomatch h)⟩)⟩), (List.forall_mem_cons.mpr ⟨(List.forall_mem_cons.mpr ⟨fun x p o4 o5 o6 o8 o10 => ⟨_, C6_34_10_0 x p o4 o5 o6 o8 o10⟩, (List.forall_mem_cons.mpr ⟨fun x p o4 o5 o6 o8 o10 => ⟨_, C6_34_10_1 x p o4 o5 o6 o8 o10⟩, (fun _ h => nomatch h)⟩)⟩), (List.forall_mem_cons.mpr ⟨(List.forall_mem_cons.mpr ⟨fun x p o4 o5 o6 o8 o10 => ⟨_, C6_34_11_0 x p o4 o5 o6 o8 o10⟩, (List.forall_mem_cons.mpr ⟨fun x p o4 o5 o6 o8 o10 => ⟨_, C6_34_11_1 x p o4 o5 o6 o8 o10⟩, (fun _ h => nomatch h)⟩)⟩), (fun _ h => nomatch h)⟩)⟩)⟩)⟩)⟩)⟩)⟩)⟩)⟩)⟩)⟩)⟩), D6_34⟩
theorem plain : ∀ ns : List Int, ns.length ≤ 63 → m_law [.fz (.scr ns)] = .ok (.fz (.bl true)) [] := by
  intro ns _
  obtain ⟨p0, hp0, op0⟩ := pool_ok ns
  rw [law_at]
  have e0 : l0 (begin 12 [.fz (.scr ns)]) = .nx [some (.fz (.scr ns)), some p0, none, none, none, none, none, none, none, none, none, none] := by
    unfold l0
    simp only [fnSem, begin, e_thok, e_thexc, e_stok, e_stexc, e_onx, e_ort, e_obk, e_oct, e_oexc, e_rOv, e_rOn, e_qOv, e_qOn, e_rS, e_rB, e_rV, e_rM, e_qS, e_oV, e_oQ, e_vQ, e_qVar, e_qC, e_vVar, e_vMove, e_o1, e_o2, e_v1, e_v2, e_bind, e_frz, e_frl, e_seq, e_set, e_ret, e_drop, e_pass, e_brk, e_cnt, e_raise, e_raise1, e_if, e_bC, e_bV, e_qT, e_bQ, e_bAnd, e_bOr, e_bNot, e_bYes, e_bl, e_trub, e_trui, e_trul, e_trut, e_trus, e_trun, e_int?, e_vIf, e_le, e_lt, e_ge, e_gt, e_add, e_sub, e_neg, e_abs, e_int, e_lenl, e_lent, e_lens, e_listl, e_listt, e_lists, e_min2, e_max2, e_ix, e_ixt, atI_nat, atI_0, atI_1, atI_2, atI_3, atI_4, e_mapv, e_pO, e_pP, e_sPut, e_aNo, e_aFz, e_aS, e_aSl, e_gS, e_argN, e_argF, e_argL, e_vCall, e_cA, e_cFok, e_cFexc, e_fills, e_qNo, e_qA, e_qAnd, e_oTup, e_oLst, e_tT, e_tL, e_sz, e_szl, e_vLst, e_vTup, e_dL, e_dT, e_allN, e_allC, e_mR, e_mL, e_mS, e_vLm, e_lA, e_lO, e_vAnd, e_vOrB, e_chA, e_oCh, e_sFor, e_iS, e_iSeq, e_itl, e_itt, e_its, e_iR, e_iRng0, e_forN, e_aName, e_aTup, e_aCons, e_aNil, e_vLc, e_vLc2, e_lR, e_wpN, e_wpC, e_rstF, e_rstL, e_rstN, e_rsN, e_rsC, Option.map_some, Option.map_none, List.getElem?_cons_zero, List.getElem?_cons_succ, List.set_cons_zero, List.set_cons_succ, List.map_cons, List.map_nil, List.cons_append, List.nil_append, List.append_nil, List.length_cons, List.length_nil, List.replicate, Nat.reduceAdd, Nat.reduceSub, if_true, if_false, ite_true, ite_false, decide_true, decide_false, Bool.false_eq_true, Bool.not_true, Bool.not_false, decide_eq_true_eq, decide_not, Bool.not_eq_true', decide_eq_false_iff_not, e_isaI, e_isaB, e_isaS, e_isaL, e_isaT, e_isaN, e_isa2I, e_isa2B, e_isa2S, e_isa2L, e_isa2T, e_isNnon, e_isNint, e_isNbl, e_isNstr, e_isNlst, e_isNtup, e_isB, e_eqI, e_neI, e_pow18, isaB, String.reduceBEq, Bool.or_false, Bool.false_or, Bool.and_false, Bool.false_and, Bool.true_and, Bool.and_true, Bool.or_true, Bool.true_or, Bool.xor_false, Bool.false_xor, Bool.xor_true, Bool.true_xor, e_mulS, e_divS, e_mod, e_append, e_put, e_put1, e_put2, e_put3, e_put4, e_frN, e_frR, e_frX, e_frE, e_frO, e_outN, e_outC, e_ou, e_notB, e_notL, e_slN, e_slF, e_slL, e_cmN, e_cmC, e_fzF, e_pb, e_pbF, e_putN, e_putC, List.nodup_cons, List.nodup_nil, List.not_mem_nil, List.mem_cons, not_false_eq_true, or_false, and_self, and_true, true_and, List.contains_cons, List.contains_nil, BEq.rfl, Int.reduceLT, Int.reduceLE, Int.reduceAdd, Int.reduceSub, Int.reduceMul, Int.reduceNeg, Int.reduceEq, Nat.reduceLT, Nat.reduceLeDiff, Nat.reduceMul, Int.toNat_natCast, mpool_eq, hp0]
  obtain ⟨r, p1, a1, a2, op1, ed⟩ := draw_v (n := 0) (k := 1) (ρ := [some (.fz (.scr ns)), some p0, none, none, none, none, none, none, none, none, none, none]) (T := vQ (qC (.int 5))) rfl rfl rfl op0 (by decide) (by decide) (by decide)
  have e1 : l1 [some (.fz (.scr ns)), some p0, none, none, none, none, none, none, none, none, none, none] = .nx [some (.fz (.scr ns)), some p1, I (2 + r), none, none, none, none, none, none, none, none, none] := by
    unfold l1
    have h1 : vQ (qC (.int 2)) [some (.fz (.scr ns)), some p0, none, none, none, none, none, none, none, none, none, none] = .ok (.fz (.int 2), [some (.fz (.scr ns)), some p0, none, none, none, none, none, none, none, none, none, none]) := rfl
    rw [set_eq (v2_ok h1 ed)]
    rfl
  obtain ⟨i, d, p2, hd, op2, ep⟩ := pick_v (n := 1) (k := 1) (ρ := [some (.fz (.scr ns)), some p1, I (2 + r), none, none, none, none, none, none, none, none, none]) (ds := [fr (1, 2), fr (1, 3), fr (2, 3), fr (2, 5), fr (3, 4)]) (T := (oV (oLst (qAnd (oQ (oTup (qAnd (qC (.int 1)) (qAnd (qC (.int 2)) qNo)))) (qAnd (oQ (oTup (qAnd (qC (.int 1)) (qAnd (qC (.int 3)) qNo)))) (qAnd (oQ (oTup (qAnd (qC (.int 2)) (qAnd (qC (.int 3)) qNo)))) (qAnd (oQ (oTup (qAnd (qC (.int 2)) (qAnd (qC (.int 5)) qNo)))) (qAnd (oQ (oTup (qAnd (qC (.int 3)) (qAnd (qC (.int 4)) qNo)))) qNo)))))))) rfl (by simp only [fnSem, begin, e_thok, e_thexc, e_stok, e_stexc, e_onx, e_ort, e_obk, e_oct, e_oexc, e_rOv, e_rOn, e_qOv, e_qOn, e_rS, e_rB, e_rV, e_rM, e_qS, e_oV, e_oQ, e_vQ, e_qVar, e_qC, e_vVar, e_vMove, e_o1, e_o2, e_v1, e_v2, e_bind, e_frz, e_frl, e_seq, e_set, e_ret, e_drop, e_pass, e_brk, e_cnt, e_raise, e_raise1, e_if, e_bC, e_bV, e_qT, e_bQ, e_bAnd, e_bOr, e_bNot, e_bYes, e_bl, e_trub, e_trui, e_trul, e_trut, e_trus, e_trun, e_int?, e_vIf, e_le, e_lt, e_ge, e_gt, e_add, e_sub, e_neg, e_abs, e_int, e_lenl, e_lent, e_lens, e_listl, e_listt, e_lists, e_min2, e_max2, e_ix, e_ixt, atI_nat, atI_0, atI_1, atI_2, atI_3, atI_4, e_mapv, e_pO, e_pP, e_sPut, e_aNo, e_aFz, e_aS, e_aSl, e_gS, e_argN, e_argF, e_argL, e_vCall, e_cA, e_cFok, e_cFexc, e_fills, e_qNo, e_qA, e_qAnd, e_oTup, e_oLst, e_tT, e_tL, e_sz, e_szl, e_vLst, e_vTup, e_dL, e_dT, e_allN, e_allC, e_mR, e_mL, e_mS, e_vLm, e_lA, e_lO, e_vAnd, e_vOrB, e_chA, e_oCh, e_sFor, e_iS, e_iSeq, e_itl, e_itt, e_its, e_iR, e_iRng0, e_forN, e_aName, e_aTup, e_aCons, e_aNil, e_vLc, e_vLc2, e_lR, e_wpN, e_wpC, e_rstF, e_rstL, e_rstN, e_rsN, e_rsC, Option.map_some, Option.map_none, List.getElem?_cons_zero, List.getElem?_cons_succ, List.set_cons_zero, List.set_cons_succ, List.map_cons, List.map_nil, List.cons_append, List.nil_append, List.append_nil, List.length_cons, List.length_nil, List.replicate, Nat.reduceAdd, Nat.reduceSub, if_true, if_false, ite_true, ite_false, decide_true, decide_false, Bool.false_eq_true, Bool.not_true, Bool.not_false, decide_eq_true_eq, decide_not, Bool.not_eq_true', decide_eq_false_iff_not, e_isaI, e_isaB, e_isaS, e_isaL, e_isaT, e_isaN, e_isa2I, e_isa2B, e_isa2S, e_isa2L, e_isa2T, e_isNnon, e_isNint, e_isNbl, e_isNstr, e_isNlst, e_isNtup, e_isB, e_eqI, e_neI, e_pow18, isaB, String.reduceBEq, Bool.or_false, Bool.false_or, Bool.and_false, Bool.false_and, Bool.true_and, Bool.and_true, Bool.or_true, Bool.true_or, Bool.xor_false, Bool.false_xor, Bool.xor_true, Bool.true_xor, e_mulS, e_divS, e_mod, e_append, e_put, e_put1, e_put2, e_put3, e_put4, e_frN, e_frR, e_frX, e_frE, e_frO, e_outN, e_outC, e_ou, e_notB, e_notL, e_slN, e_slF, e_slL, e_cmN, e_cmC, e_fzF, e_pb, e_pbF, e_putN, e_putC, List.nodup_cons, List.nodup_nil, List.not_mem_nil, List.mem_cons, not_false_eq_true, or_false, and_self, and_true, true_and, List.contains_cons, List.contains_nil, BEq.rfl, Int.reduceLT, Int.reduceLE, Int.reduceAdd, Int.reduceSub, Int.reduceMul, Int.reduceNeg, Int.reduceEq, Nat.reduceLT, Nat.reduceLeDiff, Nat.reduceMul, Int.toNat_natCast, Nat.reduceLeDiff]; rfl) rfl rfl op1 (by decide) (List.cons_ne_nil _ _) (by show 5 < 2 ^ 60; decide)
  have e2 : l2 [some (.fz (.scr ns)), some p1, I (2 + r), none, none, none, none, none, none, none, none, none] = .nx [some (.fz (.scr ns)), some p2, I (2 + r), Z d, none, none, none, none, none, none, none, none] := by
    exact set_eq (i := 3) ep
  have hd := List.mem_of_getElem? hd
  have fin : ∀ c : Int × Int, d = fr c → Good (2 + r) c → fnSem 12 1 [] (sSeq l0 (sSeq l1 (sSeq l2 (sSeq l3 (sSeq l4 (sSeq l5 (sSeq l6 (sSeq l7 (sSeq l8 (sSeq l9 (sSeq l10 l11))))))))))) [.fz (.scr ns)] = .ok (.fz (.bl true)) [] := by
    intro c hc G
    subst hc
    obtain ⟨ρ, h⟩ := rest_ok (by omega) G (x := .fz (.scr ns)) op2 (by decide)
    have h2 : sSeq l3 (sSeq l4 (sSeq l5 (sSeq l6 (sSeq l7 (sSeq l8 (sSeq l9 (sSeq l10 l11))))))) (EA (.fz (.scr ns)) p2 (2 + r) c none none none none none none none) = .rt (.fz (.bl true)) ρ := by
      rw [← h]
      simp only [segA, segB, segD, seq_assoc]
    exact fn_rt rfl ((seq_nx e0).trans ((seq_nx e1).trans ((seq_nx e2).trans h2)))
  have hr : r = 0 ∨ r = 1 ∨ r = 2 ∨ r = 3 ∨ r = 4 := by omega
  simp only [List.mem_cons, List.not_mem_nil, or_false] at hd
  rcases hr with rfl | rfl | rfl | rfl | rfl
  · rcases hd with h | h | h | h | h
    · exact fin _ h R2_12
    · exact fin _ h R2_13
    · exact fin _ h R2_23
    · exact fin _ h R2_25
    · exact fin _ h R2_34
  · rcases hd with h | h | h | h | h
    · exact fin _ h R3_12
    · exact fin _ h R3_13
    · exact fin _ h R3_23
    · exact fin _ h R3_25
    · exact fin _ h R3_34
  · rcases hd with h | h | h | h | h
    · exact fin _ h R4_12
    · exact fin _ h R4_13
    · exact fin _ h R4_23
    · exact fin _ h R4_25
    · exact fin _ h R4_34
  · rcases hd with h | h | h | h | h
    · exact fin _ h R5_12
    · exact fin _ h R5_13
    · exact fin _ h R5_23
    · exact fin _ h R5_25
    · exact fin _ h R5_34
  · rcases hd with h | h | h | h | h
    · exact fin _ h R6_12
    · exact fin _ h R6_13
    · exact fin _ h R6_23
    · exact fin _ h R6_25
    · exact fin _ h R6_34
end K61
namespace K61
open PySem PySem.Spec PyProof.Rows L2 VS

def d_common : He.DefD := ⟨("common", none), "common", "common", defArgs (top 6), defBody (top 6), defScope (top 6), [], []⟩
def d_part : He.DefD := ⟨("part", none), "part", "part", defArgs (top 7), defBody (top 7), defScope (top 7), [], []⟩
def d_is_part : He.DefD := ⟨("is_part", none), "is_part", "is_part", defArgs (top 8), defBody (top 8), defScope (top 8), [], []⟩
def d_plus : He.DefD := ⟨("plus", none), "plus", "plus", defArgs (top 9), defBody (top 9), defScope (top 9), [], []⟩
def d_minus : He.DefD := ⟨("minus", none), "minus", "minus", defArgs (top 10), defBody (top 10), defScope (top 10), [], []⟩
def d_times : He.DefD := ⟨("times", none), "times", "times", defArgs (top 11), defBody (top 11), defScope (top 11), [], []⟩
def d_is_less : He.DefD := ⟨("is_less", none), "is_less", "is_less", defArgs (top 12), defBody (top 12), defScope (top 12), [], []⟩
def d_is_number : He.DefD := ⟨("is_number", none), "is_number", "is_number", defArgs (top 15), defBody (top 15), defScope (top 15), [.int 0, .int 1000000], []⟩
def d_checked_number : He.DefD := ⟨("checked_number", none), "checked_number", "checked_number", defArgs (top 16), defBody (top 16), defScope (top 16), [.int 0, .int 1000000], []⟩
def d_checked_chance : He.DefD := ⟨("checked_chance", none), "checked_chance", "checked_chance", defArgs (top 18), defBody (top 18), defScope (top 18), [], []⟩
def d_rest : He.DefD := ⟨("rest", none), "rest", "rest", defArgs (top 19), defBody (top 19), defScope (top 19), [], []⟩
def d_checked_lines : He.DefD := ⟨("checked_lines", none), "checked_lines", "checked_lines", defArgs (top 22), defBody (top 22), defScope (top 22), [], []⟩
def d_over : He.DefD := ⟨("over", none), "over", "over", defArgs (top 23), defBody (top 23), defScope (top 23), [], []⟩
def d_solve : He.DefD := ⟨("solve", none), "solve", "solve", defArgs (top 24), defBody (top 24), defScope (top 24), [], []⟩
def d_checked_plan : He.DefD := ⟨("checked_plan", none), "checked_plan", "checked_plan", defArgs (top 27), defBody (top 27), defScope (top 27), [], []⟩
def d_timid : He.DefD := ⟨("timid", none), "timid", "timid", defArgs (top 28), defBody (top 28), defScope (top 28), [], []⟩
def d_bold : He.DefD := ⟨("bold", none), "bold", "bold", defArgs (top 29), defBody (top 29), defScope (top 29), [], []⟩
def d__inner : He.DefD := ⟨("_inner", none), "_inner", "_inner", defArgs (top 31), defBody (top 31), defScope (top 31), [], []⟩
def d_chances : He.DefD := ⟨("chances", none), "chances", "chances", defArgs (top 30), defBody (top 30), defScope (top 30), [], []⟩
def d_behind : He.DefD := ⟨("behind", none), "behind", "behind", defArgs (top 32), defBody (top 32), defScope (top 32), [], []⟩
def d_judge_plan : He.DefD := ⟨("judge_plan", none), "judge_plan", "judge_plan", defArgs (top 33), defBody (top 33), defScope (top 33), [], []⟩
def d_better : He.DefD := ⟨("better", none), "better", "better", defArgs (top 34), defBody (top 34), defScope (top 34), [], []⟩
def d_judge_best : He.DefD := ⟨("judge_best", none), "judge_best", "judge_best", defArgs (top 35), defBody (top 35), defScope (top 35), [], []⟩
def d_best : He.DefD := ⟨("best", none), "best", "best", defArgs (top 36), defBody (top 36), defScope (top 36), [], []⟩
def d__law_same : He.DefD := ⟨("_law_same", none), "_law_same", "_law_same", defArgs (top 38), defBody (top 38), defScope (top 38), [], []⟩
def d__law_pool : He.DefD := ⟨("_law_pool", none), "_law_pool", "_law_pool", defArgs (top 39), defBody (top 39), defScope (top 39), [], []⟩
def d__law_draw : He.DefD := ⟨("_law_draw", none), "_law_draw", "_law_draw", defArgs (top 40), defBody (top 40), defScope (top 40), [], []⟩
def d__law_pick : He.DefD := ⟨("_law_pick", none), "_law_pick", "_law_pick", defArgs (top 41), defBody (top 41), defScope (top 41), [], []⟩
def d__law_part : He.DefD := ⟨("_law_part", none), "_law_part", "_law_part", defArgs (top 42), defBody (top 42), defScope (top 42), [], []⟩
def d__law_plus : He.DefD := ⟨("_law_plus", none), "_law_plus", "_law_plus", defArgs (top 43), defBody (top 43), defScope (top 43), [], []⟩
def d__law_less : He.DefD := ⟨("_law_less", none), "_law_less", "_law_less", defArgs (top 44), defBody (top 44), defScope (top 44), [], []⟩
def d__law_sum : He.DefD := ⟨("_law_sum", none), "_law_sum", "_law_sum", defArgs (top 45), defBody (top 45), defScope (top 45), [], []⟩
def d__law_minus : He.DefD := ⟨("_law_minus", none), "_law_minus", "_law_minus", defArgs (top 46), defBody (top 46), defScope (top 46), [], []⟩
def d__law_times : He.DefD := ⟨("_law_times", none), "_law_times", "_law_times", defArgs (top 47), defBody (top 47), defScope (top 47), [], []⟩
def d__law_plan : He.DefD := ⟨("_law_plan", none), "_law_plan", "_law_plan", defArgs (top 48), defBody (top 48), defScope (top 48), [], []⟩
def d__law_behind : He.DefD := ⟨("_law_behind", none), "_law_behind", "_law_behind", defArgs (top 49), defBody (top 49), defScope (top 49), [], []⟩
def d__law_is_plan : He.DefD := ⟨("_law_is_plan", none), "_law_is_plan", "_law_is_plan", defArgs (top 50), defBody (top 50), defScope (top 50), [], []⟩
def d__law_better : He.DefD := ⟨("_law_better", none), "_law_better", "_law_better", defArgs (top 51), defBody (top 51), defScope (top 51), [], []⟩
def d__law_plans : He.DefD := ⟨("_law_plans", none), "_law_plans", "_law_plans", defArgs (top 52), defBody (top 52), defScope (top 52), [], []⟩
def d_law : He.DefD := ⟨("law", none), "law", "law", defArgs (top 53), defBody (top 53), defScope (top 53), [], []⟩
def fn : List He.DefD := [d_common, d_part, d_is_part, d_plus, d_minus, d_times, d_is_less, d_is_number, d_checked_number, d_checked_chance, d_rest, d_checked_lines, d_over, d_solve, d_checked_plan, d_timid, d_bold, d__inner, d_chances, d_behind, d_judge_plan, d_better, d_judge_best, d_best, d__law_same, d__law_pool, d__law_draw, d__law_pick, d__law_part, d__law_plus, d__law_less, d__law_sum, d__law_minus, d__law_times, d__law_plan, d__law_behind, d__law_is_plan, d__law_better, d__law_plans, d_law]
def fa : List He.Fa := [.glo "InvalidNumber", .exc "InvalidNumber", .glo "InvalidPaper", .exc "InvalidPaper", .int "MOST_lines" 40, .int "MOST_ruin" 20, .glo "TooMany", .exc "TooMany", .free "abs", .free "bool", .free "int", .free "isinstance", .free "len", .free "list", .free "min", .free "range", .free "str", .free "tuple", .glo "common", .glo "part", .glo "is_part", .glo "plus", .glo "minus", .glo "times", .glo "is_less", .glo "is_number", .glo "checked_number", .glo "checked_chance", .glo "rest", .glo "checked_lines", .glo "over", .glo "solve", .glo "checked_plan", .glo "timid", .glo "bold", .glo "_inner", .glo "chances", .glo "behind", .glo "judge_plan", .glo "better", .glo "judge_best", .glo "best", .glo "_law_same", .glo "_law_pool", .glo "_law_draw", .glo "_law_pick", .glo "_law_part", .glo "_law_plus", .glo "_law_less", .glo "_law_sum", .glo "_law_minus", .glo "_law_times", .glo "_law_plan", .glo "_law_behind", .glo "_law_is_plan", .glo "_law_better", .glo "_law_plans", .glo "law"]
def isr : List IsRow := []
def more (K : PySem.W.Frag) : Bool := isr.all fun r => r.ok K
theorem facts {P : Program} {w : World} {K : PySem.W.Frag} {h : Heap} {mg : Str → Option Value} (X : K.In h) (N : h.Ns mainGlobals mg) (c : He.SaysD fa fn K) (more : more K = true) :
    ∃ fd : FuncData, (∀ (s : Shared) (v : Value), BindsTo s fd ⟨[v], []⟩ [("script", v)]) ∧ ∀ base : Heap, FnOk P w K mg base (L2N.CX P w) 9 (He.ga K "law") fd ["script"] (spOf (gB K mg) 1 [] m_law) := by
  obtain ⟨fd_common, F_common⟩ := c.def_ 0 (d := d_common) rfl
  obtain ⟨fd_part, F_part⟩ := c.def_ 1 (d := d_part) rfl
  obtain ⟨fd_is_part, F_is_part⟩ := c.def_ 2 (d := d_is_part) rfl
  obtain ⟨fd_plus, F_plus⟩ := c.def_ 3 (d := d_plus) rfl
  obtain ⟨fd_minus, F_minus⟩ := c.def_ 4 (d := d_minus) rfl
  obtain ⟨fd_times, F_times⟩ := c.def_ 5 (d := d_times) rfl
  obtain ⟨fd_is_less, F_is_less⟩ := c.def_ 6 (d := d_is_less) rfl
  obtain ⟨fd_is_number, F_is_number⟩ := c.def_ 7 (d := d_is_number) rfl
  obtain ⟨fd_checked_number, F_checked_number⟩ := c.def_ 8 (d := d_checked_number) rfl
  obtain ⟨fd_checked_chance, F_checked_chance⟩ := c.def_ 9 (d := d_checked_chance) rfl
  obtain ⟨fd_rest, F_rest⟩ := c.def_ 10 (d := d_rest) rfl
  obtain ⟨fd_checked_lines, F_checked_lines⟩ := c.def_ 11 (d := d_checked_lines) rfl
  obtain ⟨fd_over, F_over⟩ := c.def_ 12 (d := d_over) rfl
  obtain ⟨fd_solve, F_solve⟩ := c.def_ 13 (d := d_solve) rfl
  obtain ⟨fd_checked_plan, F_checked_plan⟩ := c.def_ 14 (d := d_checked_plan) rfl
  obtain ⟨fd_timid, F_timid⟩ := c.def_ 15 (d := d_timid) rfl
  obtain ⟨fd_bold, F_bold⟩ := c.def_ 16 (d := d_bold) rfl
  obtain ⟨fd__inner, F__inner⟩ := c.def_ 17 (d := d__inner) rfl
  obtain ⟨fd_chances, F_chances⟩ := c.def_ 18 (d := d_chances) rfl
  obtain ⟨fd_behind, F_behind⟩ := c.def_ 19 (d := d_behind) rfl
  obtain ⟨fd_judge_plan, F_judge_plan⟩ := c.def_ 20 (d := d_judge_plan) rfl
  obtain ⟨fd_better, F_better⟩ := c.def_ 21 (d := d_better) rfl
  obtain ⟨fd_judge_best, F_judge_best⟩ := c.def_ 22 (d := d_judge_best) rfl
  obtain ⟨fd_best, F_best⟩ := c.def_ 23 (d := d_best) rfl
  obtain ⟨fd__law_same, F__law_same⟩ := c.def_ 24 (d := d__law_same) rfl
  obtain ⟨fd__law_pool, F__law_pool⟩ := c.def_ 25 (d := d__law_pool) rfl
  obtain ⟨fd__law_draw, F__law_draw⟩ := c.def_ 26 (d := d__law_draw) rfl
  obtain ⟨fd__law_pick, F__law_pick⟩ := c.def_ 27 (d := d__law_pick) rfl
  obtain ⟨fd__law_part, F__law_part⟩ := c.def_ 28 (d := d__law_part) rfl
  obtain ⟨fd__law_plus, F__law_plus⟩ := c.def_ 29 (d := d__law_plus) rfl
  obtain ⟨fd__law_less, F__law_less⟩ := c.def_ 30 (d := d__law_less) rfl
  obtain ⟨fd__law_sum, F__law_sum⟩ := c.def_ 31 (d := d__law_sum) rfl
  obtain ⟨fd__law_minus, F__law_minus⟩ := c.def_ 32 (d := d__law_minus) rfl
  obtain ⟨fd__law_times, F__law_times⟩ := c.def_ 33 (d := d__law_times) rfl
  obtain ⟨fd__law_plan, F__law_plan⟩ := c.def_ 34 (d := d__law_plan) rfl
  obtain ⟨fd__law_behind, F__law_behind⟩ := c.def_ 35 (d := d__law_behind) rfl
  obtain ⟨fd__law_is_plan, F__law_is_plan⟩ := c.def_ 36 (d := d__law_is_plan) rfl
  obtain ⟨fd__law_better, F__law_better⟩ := c.def_ 37 (d := d__law_better) rfl
  obtain ⟨fd__law_plans, F__law_plans⟩ := c.def_ 38 (d := d__law_plans) rfl
  obtain ⟨fd_law, F_law⟩ := c.def_ 39 (d := d_law) rfl
  have G : Gt K mg := ⟨exK_of X N (c.fact 0 (f := .glo "InvalidNumber") rfl) (c.fact 1 (f := .exc "InvalidNumber") rfl),
    exK_of X N (c.fact 2 (f := .glo "InvalidPaper") rfl) (c.fact 3 (f := .exc "InvalidPaper") rfl),
    He.int_ok X N (c.fact 4 (f := .int "MOST_lines" 40) rfl),
    He.int_ok X N (c.fact 5 (f := .int "MOST_ruin" 20) rfl),
    exK_of X N (c.fact 6 (f := .glo "TooMany") rfl) (c.fact 7 (f := .exc "TooMany") rfl),
    He.free_ok X N (c.fact 8 (f := .free "abs") rfl),
    He.free_ok X N (c.fact 9 (f := .free "bool") rfl),
    He.free_ok X N (c.fact 10 (f := .free "int") rfl),
    He.free_ok X N (c.fact 11 (f := .free "isinstance") rfl),
    He.free_ok X N (c.fact 12 (f := .free "len") rfl),
    He.free_ok X N (c.fact 13 (f := .free "list") rfl),
    He.free_ok X N (c.fact 14 (f := .free "min") rfl),
    He.free_ok X N (c.fact 15 (f := .free "range") rfl),
    He.free_ok X N (c.fact 16 (f := .free "str") rfl),
    He.free_ok X N (c.fact 17 (f := .free "tuple") rfl)⟩
  refine ⟨fd_law, fun s v => FunD.bindsA (ps := ["script"]) F_law (fun _ _ _ _ _ _ us hl => match us, hl with | [_], _ => rfl) s [v] rfl, fun base => ?_⟩
  have k_common : Kn P w K mg base "common" 1 2 [] [] m_common := kn_of (ok_common F_common G) (He.glo_ok X N (c.fact 18 (f := .glo "common") rfl)) F_common.kp (binds_all (ps := ["one", "other"]) F_common fun _ _ _ _ _ _ us hl => match us, hl with | [_, _], _ => rfl) Consts.nil (fun ss h => fnSem_np h) (by decide)
  have k_part : Kn P w K mg base "part" 2 2 [] [] m_part := kn_of (ok_part F_part G k_common) (He.glo_ok X N (c.fact 19 (f := .glo "part") rfl)) F_part.kp (binds_all (ps := ["n", "d"]) F_part fun _ _ _ _ _ _ us hl => match us, hl with | [_, _], _ => rfl) Consts.nil (fun ss h => fnSem_np h) (by decide)
  have k_is_part : Kn P w K mg base "is_part" 2 1 [] [] m_is_part := kn_of (ok_is_part F_is_part G k_common) (He.glo_ok X N (c.fact 20 (f := .glo "is_part") rfl)) F_is_part.kp (binds_all (ps := ["value"]) F_is_part fun _ _ _ _ _ _ us hl => match us, hl with | [_], _ => rfl) Consts.nil (fun ss h => fnSem_np h) (by decide)
  have k_plus : Kn P w K mg base "plus" 3 2 [] [] m_plus := kn_of (ok_plus F_plus G k_part) (He.glo_ok X N (c.fact 21 (f := .glo "plus") rfl)) F_plus.kp (binds_all (ps := ["one", "other"]) F_plus fun _ _ _ _ _ _ us hl => match us, hl with | [_, _], _ => rfl) Consts.nil (fun ss h => fnSem_np h) (by decide)
  have k_minus : Kn P w K mg base "minus" 3 2 [] [] m_minus := kn_of (ok_minus F_minus G k_part) (He.glo_ok X N (c.fact 22 (f := .glo "minus") rfl)) F_minus.kp (binds_all (ps := ["one", "other"]) F_minus fun _ _ _ _ _ _ us hl => match us, hl with | [_, _], _ => rfl) Consts.nil (fun ss h => fnSem_np h) (by decide)
  have k_times : Kn P w K mg base "times" 3 2 [] [] m_times := kn_of (ok_times F_times G k_part) (He.glo_ok X N (c.fact 23 (f := .glo "times") rfl)) F_times.kp (binds_all (ps := ["one", "other"]) F_times fun _ _ _ _ _ _ us hl => match us, hl with | [_, _], _ => rfl) Consts.nil (fun ss h => fnSem_np h) (by decide)
  have k_is_less : Kn P w K mg base "is_less" 1 2 [] [] m_is_less := kn_of (ok_is_less F_is_less G) (He.glo_ok X N (c.fact 24 (f := .glo "is_less") rfl)) F_is_less.kp (binds_all (ps := ["one", "other"]) F_is_less fun _ _ _ _ _ _ us hl => match us, hl with | [_, _], _ => rfl) Consts.nil (fun ss h => fnSem_np h) (by decide)
  have k_is_number : Kn P w K mg base "is_number" 1 3 [] [] m_is_number := kn_of (ok_is_number F_is_number G) (He.glo_ok X N (c.fact 25 (f := .glo "is_number") rfl)) F_is_number.kp (FunD.binds1 (ps := ["value", "least", "most"]) F_is_number 3 2 (by exact List.cons_ne_nil _ _) rfl fun _ _ _ _ _ _ _ us its hl hi => match us, its, hl, hi with | [_, _, _], [_, _], _, _ => ⟨_, rfl, rfl⟩) Consts.nil (fun ss h => fnSem_np h) (by decide)
  have k_checked_number : Kn P w K mg base "checked_number" 2 3 [] [] m_checked_number := kn_of (ok_checked_number F_checked_number G k_is_number) (He.glo_ok X N (c.fact 26 (f := .glo "checked_number") rfl)) F_checked_number.kp (FunD.binds1 (ps := ["value", "least", "most"]) F_checked_number 3 2 (by exact List.cons_ne_nil _ _) rfl fun _ _ _ _ _ _ _ us its hl hi => match us, its, hl, hi with | [_, _, _], [_, _], _, _ => ⟨_, rfl, rfl⟩) Consts.nil (fun ss h => fnSem_np h) (by decide)
  have k_checked_chance : Kn P w K mg base "checked_chance" 3 1 [] [] m_checked_chance := kn_of (ok_checked_chance F_checked_chance G k_is_part) (He.glo_ok X N (c.fact 27 (f := .glo "checked_chance") rfl)) F_checked_chance.kp (binds_all (ps := ["value"]) F_checked_chance fun _ _ _ _ _ _ us hl => match us, hl with | [_], _ => rfl) Consts.nil (fun ss h => fnSem_np h) (by decide)
  have k_rest : Kn P w K mg base "rest" 4 1 [] [] m_rest := kn_of (ok_rest F_rest G k_checked_chance k_minus) (He.glo_ok X N (c.fact 28 (f := .glo "rest") rfl)) F_rest.kp (binds_all (ps := ["value"]) F_rest fun _ _ _ _ _ _ us hl => match us, hl with | [_], _ => rfl) Consts.nil (fun ss h => fnSem_np h) (by decide)
  have k_checked_lines : Kn P w K mg base "checked_lines" 3 1 [] [] m_checked_lines := kn_of (ok_checked_lines F_checked_lines G k_is_part) (He.glo_ok X N (c.fact 29 (f := .glo "checked_lines") rfl)) F_checked_lines.kp (binds_all (ps := ["lines"]) F_checked_lines fun _ _ _ _ _ _ us hl => match us, hl with | [_], _ => rfl) Consts.nil (fun ss h => fnSem_np h) (by decide)
  have k_over : Kn P w K mg base "over" 3 2 [] [] m_over := kn_of (ok_over F_over G k_part) (He.glo_ok X N (c.fact 30 (f := .glo "over") rfl)) F_over.kp (binds_all (ps := ["one", "other"]) F_over fun _ _ _ _ _ _ us hl => match us, hl with | [_, _], _ => rfl) Consts.nil (fun ss h => fnSem_np h) (by decide)
  have k_solve : Kn P w K mg base "solve" 4 1 [] [] m_solve := kn_of (ok_solve F_solve G k_checked_lines k_minus k_over k_times) (He.glo_ok X N (c.fact 31 (f := .glo "solve") rfl)) F_solve.kp (binds_all (ps := ["lines"]) F_solve fun _ _ _ _ _ _ us hl => match us, hl with | [_], _ => rfl) Consts.nil (fun ss h => fnSem_np h) (by decide)
  have k_checked_plan : Kn P w K mg base "checked_plan" 3 2 [] [] m_checked_plan := kn_of (ok_checked_plan F_checked_plan G k_checked_number k_is_number) (He.glo_ok X N (c.fact 32 (f := .glo "checked_plan") rfl)) F_checked_plan.kp (binds_all (ps := ["aim", "plan"]) F_checked_plan fun _ _ _ _ _ _ us hl => match us, hl with | [_, _], _ => rfl) Consts.nil (fun ss h => fnSem_np h) (by decide)
  have k_timid : Kn P w K mg base "timid" 3 1 [] [] m_timid := kn_of (ok_timid F_timid G k_checked_number) (He.glo_ok X N (c.fact 33 (f := .glo "timid") rfl)) F_timid.kp (binds_all (ps := ["aim"]) F_timid fun _ _ _ _ _ _ us hl => match us, hl with | [_], _ => rfl) Consts.nil (fun ss h => fnSem_np h) (by decide)
  have k_bold : Kn P w K mg base "bold" 3 1 [] [] m_bold := kn_of (ok_bold F_bold G k_checked_number) (He.glo_ok X N (c.fact 34 (f := .glo "bold") rfl)) F_bold.kp (binds_all (ps := ["aim"]) F_bold fun _ _ _ _ _ _ us hl => match us, hl with | [_], _ => rfl) Consts.nil (fun ss h => fnSem_np h) (by decide)
  have k__inner : Kn P w K mg base "_inner" 4 1 [] [] m__inner := kn_of (ok__inner F__inner G k_checked_chance) (He.glo_ok X N (c.fact 35 (f := .glo "_inner") rfl)) F__inner.kp (binds_all (ps := ["chance"]) F__inner fun _ _ _ _ _ _ us hl => match us, hl with | [_], _ => rfl) Consts.nil (fun ss h => fnSem_np h) (by decide)
  have k_chances : Kn P w K mg base "chances" 5 3 [] [] m_chances := kn_of (ok_chances F_chances G k__inner k_checked_plan k_minus k_plus k_rest k_solve) (He.glo_ok X N (c.fact 36 (f := .glo "chances") rfl)) F_chances.kp (binds_all (ps := ["aim", "plan", "chance"]) F_chances fun _ _ _ _ _ _ us hl => match us, hl with | [_, _, _], _ => rfl) Consts.nil (fun ss h => fnSem_np h) (by decide)
  have k_behind : Kn P w K mg base "behind" 5 4 [] [] m_behind := kn_of (ok_behind F_behind G k_plus k_rest k_times) (He.glo_ok X N (c.fact 37 (f := .glo "behind") rfl)) F_behind.kp (binds_all (ps := ["values", "have", "stake", "chance"]) F_behind fun _ _ _ _ _ _ us hl => match us, hl with | [_, _, _, _], _ => rfl) Consts.nil (fun ss h => fnSem_np h) (by decide)
  have k_judge_plan : Kn P w K mg base "judge_plan" 6 4 [] [] m_judge_plan := kn_of (ok_judge_plan F_judge_plan G k__inner k_behind k_checked_plan k_is_part) (He.glo_ok X N (c.fact 38 (f := .glo "judge_plan") rfl)) F_judge_plan.kp (binds_all (ps := ["aim", "plan", "chance", "values"]) F_judge_plan fun _ _ _ _ _ _ us hl => match us, hl with | [_, _, _, _], _ => rfl) Consts.nil (fun ss h => fnSem_np h) (by decide)
  have k_better : Kn P w K mg base "better" 6 3 [] [] m_better := kn_of (ok_better F_better G k_behind k_is_less) (He.glo_ok X N (c.fact 39 (f := .glo "better") rfl)) F_better.kp (binds_all (ps := ["aim", "chance", "values"]) F_better fun _ _ _ _ _ _ us hl => match us, hl with | [_, _, _], _ => rfl) Consts.nil (fun ss h => fnSem_np h) (by decide)
  have k_judge_best : Kn P w K mg base "judge_best" 7 4 [] [] m_judge_best := kn_of (ok_judge_best F_judge_best G k_better k_judge_plan) (He.glo_ok X N (c.fact 40 (f := .glo "judge_best") rfl)) F_judge_best.kp (binds_all (ps := ["aim", "plan", "chance", "values"]) F_judge_best fun _ _ _ _ _ _ us hl => match us, hl with | [_, _, _, _], _ => rfl) Consts.nil (fun ss h => fnSem_np h) (by decide)
  have k_checked_plan__b_1 : Kn P w K mg base "checked_plan" 3 2 [1] [] m_checked_plan__b_1 := kn_of (ok_checked_plan__b_1 F_checked_plan G k_checked_number k_is_number) (He.glo_ok X N (c.fact 32 (f := .glo "checked_plan") rfl)) F_checked_plan.kp (binds_all (ps := ["aim", "plan"]) F_checked_plan fun _ _ _ _ _ _ us hl => match us, hl with | [_, _], _ => rfl) Consts.nil (fun ss h => fnSem_np h) (by decide)
  have k_chances__b_1 : Kn P w K mg base "chances" 5 3 [1] [] m_chances__b_1 := kn_of (ok_chances__b_1 F_chances G k__inner k_checked_plan__b_1 k_minus k_plus k_rest k_solve) (He.glo_ok X N (c.fact 36 (f := .glo "chances") rfl)) F_chances.kp (binds_all (ps := ["aim", "plan", "chance"]) F_chances fun _ _ _ _ _ _ us hl => match us, hl with | [_, _, _], _ => rfl) Consts.nil (fun ss h => fnSem_np h) (by decide)
  have k_best : Kn P w K mg base "best" 7 2 [] [] m_best := kn_of (ok_best F_best G k__inner k_behind k_better k_bold k_chances__b_1 k_is_less) (He.glo_ok X N (c.fact 41 (f := .glo "best") rfl)) F_best.kp (binds_all (ps := ["aim", "chance"]) F_best fun _ _ _ _ _ _ us hl => match us, hl with | [_, _], _ => rfl) Consts.nil (fun ss h => fnSem_np h) (by decide)
  have r__law_same : ∀ n : Nat, Kn P w K mg base "_law_same" (0 + n) 2 [] [] (m__law_same n) := fun n => by
    induction n with
    | zero => exact kn_of (fn_bad rfl) (He.glo_ok X N (c.fact 42 (f := .glo "_law_same") rfl)) F__law_same.kp (binds_all (ps := ["actual", "due"]) F__law_same fun _ _ _ _ _ _ us hl => match us, hl with | [_, _], _ => rfl) .nil (np__law_same 0) (by decide)
    | succ n ih => exact kn_of (ok__law_same F__law_same G n ih) (He.glo_ok X N (c.fact 42 (f := .glo "_law_same") rfl)) F__law_same.kp (binds_all (ps := ["actual", "due"]) F__law_same fun _ _ _ _ _ _ us hl => match us, hl with | [_, _], _ => rfl) .nil (np__law_same (n + 1)) (by decide)
  have k__law_same : Kn P w K mg base "_law_same" 8 2 [] [] (m__law_same 8) := r__law_same 8
  have k__law_pool : Kn P w K mg base "_law_pool" 1 1 [] [] m__law_pool := kn_of (ok__law_pool F__law_pool G) (He.glo_ok X N (c.fact 43 (f := .glo "_law_pool") rfl)) F__law_pool.kp (binds_all (ps := ["script"]) F__law_pool fun _ _ _ _ _ _ us hl => match us, hl with | [_], _ => rfl) Consts.nil (fun ss h => fnSem_np h) (by decide)
  have k__law_draw : Kn P w K mg base "_law_draw" 1 2 [0] [] m__law_draw := kn_of (ok__law_draw F__law_draw G) (He.glo_ok X N (c.fact 44 (f := .glo "_law_draw") rfl)) F__law_draw.kp (binds_all (ps := ["pool", "many"]) F__law_draw fun _ _ _ _ _ _ us hl => match us, hl with | [_, _], _ => rfl) Consts.nil (fun ss h => fnSem_np h) (by decide)
  have k__law_pick : Kn P w K mg base "_law_pick" 2 2 [0] [] m__law_pick := kn_of (ok__law_pick F__law_pick G k__law_draw) (He.glo_ok X N (c.fact 45 (f := .glo "_law_pick") rfl)) F__law_pick.kp (binds_all (ps := ["pool", "rows"]) F__law_pick fun _ _ _ _ _ _ us hl => match us, hl with | [_, _], _ => rfl) Consts.nil (fun ss h => fnSem_np h) (by decide)
  have k__law_part : Kn P w K mg base "_law_part" 1 2 [] [] m__law_part := kn_of (ok__law_part F__law_part G) (He.glo_ok X N (c.fact 46 (f := .glo "_law_part") rfl)) F__law_part.kp (binds_all (ps := ["over_v", "under"]) F__law_part fun _ _ _ _ _ _ us hl => match us, hl with | [_, _], _ => rfl) Consts.nil (fun ss h => fnSem_np h) (by decide)
  have k__law_plus : Kn P w K mg base "_law_plus" 2 2 [] [] m__law_plus := kn_of (ok__law_plus F__law_plus G k__law_part) (He.glo_ok X N (c.fact 47 (f := .glo "_law_plus") rfl)) F__law_plus.kp (binds_all (ps := ["one", "other"]) F__law_plus fun _ _ _ _ _ _ us hl => match us, hl with | [_, _], _ => rfl) Consts.nil (fun ss h => fnSem_np h) (by decide)
  have k__law_less : Kn P w K mg base "_law_less" 1 2 [] [] m__law_less := kn_of (ok__law_less F__law_less G) (He.glo_ok X N (c.fact 48 (f := .glo "_law_less") rfl)) F__law_less.kp (binds_all (ps := ["one", "other"]) F__law_less fun _ _ _ _ _ _ us hl => match us, hl with | [_, _], _ => rfl) Consts.nil (fun ss h => fnSem_np h) (by decide)
  have k__law_times : Kn P w K mg base "_law_times" 2 2 [] [] m__law_times := kn_of (ok__law_times F__law_times G k__law_part) (He.glo_ok X N (c.fact 51 (f := .glo "_law_times") rfl)) F__law_times.kp (binds_all (ps := ["one", "other"]) F__law_times fun _ _ _ _ _ _ us hl => match us, hl with | [_, _], _ => rfl) Consts.nil (fun ss h => fnSem_np h) (by decide)
  have k__law_plan : Kn P w K mg base "_law_plan" 2 2 [0] [] m__law_plan := kn_of (ok__law_plan F__law_plan G k__law_draw) (He.glo_ok X N (c.fact 52 (f := .glo "_law_plan") rfl)) F__law_plan.kp (binds_all (ps := ["pool", "aim"]) F__law_plan fun _ _ _ _ _ _ us hl => match us, hl with | [_, _], _ => rfl) Consts.nil (fun ss h => fnSem_np h) (by decide)
  have k__law_behind : Kn P w K mg base "_law_behind" 3 4 [] [] m__law_behind := kn_of (ok__law_behind F__law_behind G k__law_plus k__law_times) (He.glo_ok X N (c.fact 53 (f := .glo "_law_behind") rfl)) F__law_behind.kp (binds_all (ps := ["values", "have", "stake", "chance"]) F__law_behind fun _ _ _ _ _ _ us hl => match us, hl with | [_, _, _, _], _ => rfl) Consts.nil (fun ss h => fnSem_np h) (by decide)
  have k__law_is_plan : Kn P w K mg base "_law_is_plan" 4 4 [] [] m__law_is_plan := kn_of (ok__law_is_plan F__law_is_plan G k__law_behind) (He.glo_ok X N (c.fact 54 (f := .glo "_law_is_plan") rfl)) F__law_is_plan.kp (binds_all (ps := ["aim", "plan", "chance", "values"]) F__law_is_plan fun _ _ _ _ _ _ us hl => match us, hl with | [_, _, _, _], _ => rfl) Consts.nil (fun ss h => fnSem_np h) (by decide)
  have k__law_better : Kn P w K mg base "_law_better" 4 3 [] [] m__law_better := kn_of (ok__law_better F__law_better G k__law_behind k__law_less) (He.glo_ok X N (c.fact 55 (f := .glo "_law_better") rfl)) F__law_better.kp (binds_all (ps := ["aim", "chance", "values"]) F__law_better fun _ _ _ _ _ _ us hl => match us, hl with | [_, _, _], _ => rfl) Consts.nil (fun ss h => fnSem_np h) (by decide)
  have k__law_plans : Kn P w K mg base "_law_plans" 1 1 [] [] m__law_plans := kn_of (ok__law_plans F__law_plans G) (He.glo_ok X N (c.fact 56 (f := .glo "_law_plans") rfl)) F__law_plans.kp (binds_all (ps := ["aim"]) F__law_plans fun _ _ _ _ _ _ us hl => match us, hl with | [_], _ => rfl) Consts.nil (fun ss h => fnSem_np h) (by decide)
  exact ok_law F_law G k__law_better k__law_draw k__law_is_plan k__law_less k__law_part k__law_pick k__law_plan k__law_plans k__law_pool k__law_same k_best k_better k_bold k_chances k_judge_best k_timid
def loose : List Str := (["MixError", "InvalidNumber", "TooMany", "InvalidPaper", "common", "part", "is_part", "plus", "minus", "times", "is_less", "GREATEST", "is_number", "checked_number", "checked_chance", "rest", "MOST_lines", "checked_lines", "over", "solve"] : List Str) ++ (["MOST_ruin", "checked_plan", "timid", "bold", "chances", "_inner", "behind", "judge_plan", "better", "judge_best", "best", "_law_same", "_law_pool", "_law_draw", "_law_pick", "_law_part", "_law_plus", "_law_less", "_law_sum", "_law_minus"] : List Str) ++ (["_law_times", "_law_plan", "_law_behind", "_law_is_plan", "_law_better", "_law_plans"] : List Str)
abbrev R : PySem.W.OpenRow := PySem.W.OpenLaw.row PySem.Challenge.rw_mixworths_k61_whole_best_plans
abbrev hk : PySem.W.Hook := He.hookX 4 fa fn [] [] more
def ob (s : PySem.W.SharedT) : He.AlX := He.obsX 4 fa fn [] [] more (HandSHeadRun.getT s)
theorem ob_eq (s : PySem.W.SharedT) : ob s = hk.obs s.abs := He.obsX_eq (HandSHeadRun.getT_eq s)
theorem run (w : World) : HandSHeadRun.RunEq R (PySem.W.view R.prog [53]) hk ob 4000 loose w := by
  intro os
  kernel_rfl
end K61
open PySem PySem.W PySem.Calls PyProof.Rows
theorem PySem.Challenge.cw_mixworths_k61_whole_best_plans_holds : PySem.Challenge.rw_mixworths_k61_whole_best_plans.Holds := by
  w_on; o_law
  refine HandSHeadRun.head_any (r := OpenLaw.row PySem.Challenge.rw_mixworths_k61_whole_best_plans) (q := view (OpenLaw.row PySem.Challenge.rw_mixworths_k61_whole_best_plans).prog [53]) (H := K61.hk) (ob := K61.ob) (M := 4000) (loose := K61.loose) (d := HandSHeadRun.topDef (OpenLaw.row PySem.Challenge.rw_mixworths_k61_whole_best_plans).prog 53) (kwd := []) K61.ob_eq
    (by kernel_rfl) (fun s => by kernel_rfl) K61.run (by kernel_rfl) (by kernel_rfl) (by kernel_rfl) (by rfl) (by first | assumption | decide +kernel) (by decide +kernel) ⟨rfl, rfl, rfl, rfl, rfl, by decide +kernel⟩ ?hw ?hc
  case hw => w_witness2
  case hc =>
    refine VS.walk_vs (l := PySem.Challenge.rw_mixworths_k61_whole_best_plans) (n := 63) (k := 9) (x := "script") rfl (by decide) (by kernel_rfl) ⟨rfl, by decide, by decide⟩ ?F
    intro w mg fa h Y G hmg0
    obtain ⟨K, KX, c⟩ := Y
    have cd := c.t.d
    have hmg : mg ("law" : PySem.Str) = some (.ref fa) := by
      have e : (HandSHeadRun.topDef (OpenLaw.row PySem.Challenge.rw_mixworths_k61_whole_best_plans).prog 53).name = ("law" : PySem.Str) := by kernel_rfl
      rw [← e]
      exact hmg0
    have e := hmg.symm.trans (He.glo_ok KX G (cd.fact 57 (f := .glo "law") rfl))
    cases e
    obtain ⟨fd, hb, hF⟩ := K61.facts (P := (PySem.Challenge.rw_mixworths_k61_whole_best_plans).prog) (w := w) KX G cd c.more
    exact ⟨K, fd, K61.m_law, KX, hb, K61.plain, fun base _ _ => hF base⟩
