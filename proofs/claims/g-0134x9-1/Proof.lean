import JvmDerived
import JvmDerived.Pilot.@@N@@Statement
import JvmDerived.Pilot.@@N@@Code
set_option linter.unusedVariables false
set_option linter.unusedSimpArgs false
namespace Jvm.RoadKit
open Sem ClassFile Op Lib Jvm.Stand Jvm.Free Jvm.LawKit
section New
variable {p : Program} {l : Launch} {e : Env} {R : Room} {s : State} {m : MethodId} {args : Array Value} {below : List Frame} {meth : Method} {c : Code} {T : State} {locs : List Loc} {cells slots : Nat}
theorem retI (X : Stand p l e R s m args below meth c T locs cells slots) (hx : p.tables.exec = Jvm.exec) {pc : Nat} {Ls : Array Slot} {z : Int32} {rest : List Value} (hret : meth.sig.returnType = some .int) (hd : decode c.code pc = .ok (.ireturn, 1)) {fs : List Frame}
    (hl : ∀ (f : JFrame) (acts : List Action), f.method = m → f.locked = none → f.entered = [] → (doReturn e (T.setTop f) acts (some (.int z))).1 = T.setFrames fs) : Steps p.tables e below (T.setTop (mkF m pc Ls (.int z :: rest))) (T.setFrames fs) := by
  have hm' : T.vm.method? m = some meth := X.method'
  have hn : narrow .int (.int z) = .int z := rfl
  show Steps p.tables e below (T.setTop { method := m, pc := pc, locals := Ls, stack := _ :: rest, locked := none }) _
  jvm_step X.here [X.here.top, hx, hd, hm', hret, hn]
  first | (intro acts; rw [hl _ acts rfl rfl rfl]) | rw [hl _ _ rfl rfl rfl]
  exact Steps.refl _
end New
end Jvm.RoadKit
namespace Jvm.Pilot.@@N@@
open Jvm Jvm.ClassFile Sem Op Lib Jvm.Free Jvm.Stand Jvm.LawKit Jvm.RoadKit Bundle Jvm.Pilot.@@N@@.Jvm.D
/- records: scalars, int-like arrays, long arrays -/
abbrev Rec : Type := (Nat → Int32) × (Nat → Int32 → Int32) × (Nat → Int32 → Int64)
def zrec : Rec := (fun _ => 0, fun _ _ => 0, fun _ _ => 0)
def gI (ob : Rec) (k : Nat) : Int32 := ob.1 k
def gA (ob : Rec) (k : Nat) (i : Int32) : Int32 := ob.2.1 k i
def gJ (ob : Rec) (k : Nat) (i : Int32) : Int64 := ob.2.2 k i
def sI (ob : Rec) (k : Nat) (v : Int32) : Rec := (fun j => if j = k then v else ob.1 j, ob.2)
def sA (ob : Rec) (k : Nat) (i v : Int32) : Rec := (ob.1, fun j x => if j = k ∧ x = i then v else ob.2.1 j x, ob.2.2)
def sJ (ob : Rec) (k : Nat) (i : Int32) (v : Int64) : Rec := (ob.1, ob.2.1, fun j x => if j = k ∧ x = i then v else ob.2.2 j x)
def chk {γ : Type} (n i : Int32) (A : Option γ) : Option γ := if i < 0 then none else if i < n then A else none
def dvz {γ : Type} (y : Int32) (A : Option γ) : Option γ := if y = 0 then none else A
def bind2 {α β γ : Type} (o : Option (α × β)) (f : α → β → Option γ) : Option γ := o.bind fun q => f q.1 q.2
def bind3 {α β γ δ : Type} (o : Option (α × β × δ)) (f : α → β → δ → Option γ) : Option γ := o.bind fun q => f q.1 q.2.1 q.2.2
theorem ite_el {c : Prop} [Decidable c] {γ : Type} {A B : Option γ} {r : γ} {Q : Prop} (h : (if c then A else B) = some r) (t : c → A = some r → Q) (e : ¬ c → B = some r → Q) : Q := by
  by_cases hc : c
  · rw [if_pos hc] at h; exact t hc h
  · rw [if_neg hc] at h; exact e hc h
theorem bind_el {α γ : Type} {o : Option α} {f : α → Option γ} {r : γ} {Q : Prop} (h : o.bind f = some r) (k : ∀ x, o = some x → f x = some r → Q) : Q := by
  cases o with
  | none => cases h
  | some x => exact k x rfl h
theorem bind2_el {α β γ : Type} {o : Option (α × β)} {f : α → β → Option γ} {r : γ} {Q : Prop} (h : bind2 o f = some r) (k : ∀ x y, o = some (x, y) → f x y = some r → Q) : Q := by
  rcases o with _ | ⟨x, y⟩
  · cases h
  · exact k x y rfl h
theorem bind3_el {α β γ δ : Type} {o : Option (α × β × δ)} {f : α → β → δ → Option γ} {r : γ} {Q : Prop} (h : bind3 o f = some r) (k : ∀ x y z, o = some (x, y, z) → f x y z = some r → Q) : Q := by
  rcases o with _ | ⟨x, y, z⟩
  · cases h
  · exact k x y z rfl h
theorem chk_el {γ : Type} {n i : Int32} {A : Option γ} {r : γ} {Q : Prop} (h : chk n i A = some r) (k : (¬ i < 0 ∧ i < n) → A = some r → Q) : Q := by
  unfold chk at h
  by_cases h0 : i < 0
  · rw [if_pos h0] at h; cases h
  · rw [if_neg h0] at h
    by_cases h1 : i < n
    · rw [if_pos h1] at h; exact k ⟨h0, h1⟩ h
    · rw [if_neg h1] at h; cases h
theorem dvz_el {γ : Type} {y : Int32} {A : Option γ} {r : γ} {Q : Prop} (h : dvz y A = some r) (k : y ≠ 0 → A = some r → Q) : Q := by
  unfold dvz at h
  by_cases h0 : y = 0
  · rw [if_pos h0] at h; cases h
  · rw [if_neg h0] at h; exact k h0 h
def All {α : Type} (p : α → Prop) : List α → Prop
  | [] => True
  | x :: l => p x ∧ All p l
theorem All.mem {α : Type} {p : α → Prop} : ∀ {l : List α}, All p l → ∀ {x : α}, x ∈ l → p x
  | [], _, _, h => nomatch h
  | _ :: _, H, _, h => (List.mem_cons.mp h).elim (fun e => e ▸ H.1) (fun e => All.mem H.2 e)
def el (ty : FieldType) (ob : Rec) (k : Nat) (j : Int32) : Value := match ty with
  | .long => .long (ob.2.2 k j)
  | _ => .int (ob.2.1 k j)
def aD (ty : FieldType) : String := match ty with
  | .int => "[I"
  | .boolean => "[Z"
  | _ => "[J"
abbrev Cls : Type := String × List (String × String) × List (String × FieldType × Int32)
abbrev mem1 (k : Nat) {d : Jvm.Cond} (h : tables_1[k]? = some d) : d ∈ tables_1 := List.mem_of_getElem? h
abbrev sOk (C : String) (nd : String × String) : Prop := (Jvm.Cond.lays C C nd.1 nd.2 ∈ tables_1 ∨ Jvm.Cond.laysFinal C C nd.1 nd.2 ∈ tables_1) ∧ (nd.2 = "I" ∨ nd.2 = "Z")
abbrev aOk (C : String) (t : String × FieldType × Int32) : Prop := (Jvm.Cond.lays C C t.1 (aD t.2.1) ∈ tables_1 ∨ Jvm.Cond.laysFinal C C t.1 (aD t.2.1) ∈ tables_1) ∧ (t.2.1 = .int ∨ t.2.1 = .boolean ∨ t.2.1 = .long) ∧ ¬ t.2.2 < 0
def K : Cls := ("CausalStable", [("n", "I"), ("cap", "I")], [("sentCount", .int, 8), ("crashedFlag", .boolean, 8), ("del", .int, 64), ("msgState", .int, 512), ("stampArr", .int, 512), ("copyArr", .int, 512), ("known", .int, 512), ("list", .int, 512), ("listLen", .int, 8)])
theorem kS : All (sOk K.1) K.2.1 := ⟨⟨Or.inl (mem1 30 rfl), Or.inl rfl⟩, ⟨Or.inl (mem1 32 rfl), Or.inl rfl⟩, trivial⟩
theorem kA : All (aOk K.1) K.2.2 := ⟨⟨Or.inl (mem1 11 rfl), Or.inl rfl, by decide⟩, ⟨Or.inl (mem1 14 rfl), Or.inr (Or.inl rfl), by decide⟩, ⟨Or.inl (mem1 16 rfl), Or.inl rfl, by decide⟩, ⟨Or.inl (mem1 18 rfl), Or.inl rfl, by decide⟩, ⟨Or.inl (mem1 20 rfl), Or.inl rfl, by decide⟩, ⟨Or.inl (mem1 22 rfl), Or.inl rfl, by decide⟩, ⟨Or.inl (mem1 24 rfl), Or.inl rfl, by decide⟩, ⟨Or.inl (mem1 26 rfl), Or.inl rfl, by decide⟩, ⟨Or.inl (mem1 28 rfl), Or.inl rfl, by decide⟩, trivial⟩
abbrev kN : Nat := 11
theorem kI : Jvm.Cond.instantiable K.1 kN ∈ tables_1 := mem1 1 rfl
theorem kZ : Jvm.Cond.initialized K.1 ∈ tables_1 := mem1 2 rfl
theorem kNm : (K.2.1.map (·.1) ++ K.2.2.map (·.1)).Nodup := by decide +kernel
theorem nm_ss {k k' : Nat} {nd nd' : String × String} (h : K.2.1[k]? = some nd) (h' : K.2.1[k']? = some nd') (ne : k ≠ k') : nd.1 ≠ nd'.1 := fun e => by
  have l := (List.getElem?_eq_some_iff.mp h).1
  have l' := (List.getElem?_eq_some_iff.mp h').1
  refine ne ((List.getElem?_inj (l := K.2.1.map (·.1) ++ K.2.2.map (·.1)) (i := k) (j := k') (by simp; omega) kNm).mp ?_)
  rw [List.getElem?_append_left (by simpa using l), List.getElem?_append_left (by simpa using l'), List.getElem?_map, List.getElem?_map, h, h']
  simp [e]
theorem nm_aa {k k' : Nat} {t t' : String × FieldType × Int32} (h : K.2.2[k]? = some t) (h' : K.2.2[k']? = some t') (ne : k ≠ k') : t.1 ≠ t'.1 := fun e => by
  have l := (List.getElem?_eq_some_iff.mp h).1
  have l' := (List.getElem?_eq_some_iff.mp h').1
  have q := (List.getElem?_inj (l := K.2.1.map (·.1) ++ K.2.2.map (·.1)) (i := K.2.1.length + k) (j := K.2.1.length + k') (by simp; omega) kNm).mp (by
    rw [List.getElem?_append_right (by simp), List.getElem?_append_right (by simp)]
    simp [h, h', e])
  omega
theorem nm_sa {k k' : Nat} {nd : String × String} {t : String × FieldType × Int32} (h : K.2.1[k]? = some nd) (h' : K.2.2[k']? = some t) : nd.1 ≠ t.1 := fun e => by
  have l := (List.getElem?_eq_some_iff.mp h).1
  have l' := (List.getElem?_eq_some_iff.mp h').1
  have q := (List.getElem?_inj (l := K.2.1.map (·.1) ++ K.2.2.map (·.1)) (i := k) (j := K.2.1.length + k') (by simp; omega) kNm).mp (by
    rw [List.getElem?_append_left (by simpa using l), List.getElem?_append_right (by simp)]
    simp [h, h', e])
  omega
abbrev Ctx : Type := Launch × State × Nat × Array Value
def Ok (C : Ctx) : Prop := ∀ d ∈ tables_1, d.before C.2.2.2 C.2.1 = true
def ArrAt (Z : State) (h : Heap) (b : Nat) (ty : FieldType) (len : Int32) (v : Int32 → Value) : Prop := ∃ cl : Cell, Arr Z h b cl ty ∧ cl.slots.size = len.toNatClampNeg ∧ ∀ j : Int32, ¬ j < 0 → j < len → cl.slots[j.toNatClampNeg]? = some (v j)
def ObjAt (Z : State) (h : Heap) (a : Nat) (q : Nat) (ob : Rec) : Prop :=
  Exa Z h a K.1 ∧ (∀ k nd, K.2.1[k]? = some nd → Fld Z h a K.1 nd.1 nd.2 (.int (ob.1 k))) ∧
  (∀ k t, K.2.2[k]? = some t → k < q → Fld Z h a K.1 t.1 (aD t.2.1) (.ref (a + 1 + k)) ∧ ArrAt Z h (a + 1 + k) t.2.1 t.2.2 (el t.2.1 ob k)) ∧
  (∀ k t, K.2.2[k]? = some t → q ≤ k → Fld Z h a K.1 t.1 (aD t.2.1) .null)
abbrev AH : Type := Nat × List (Nat × Nat × Rec)
def Rep (Z : State) (n0 : Nat) (h : Heap) (G : AH) : Prop :=
  h.size = G.1 ∧ Old Z n0 h ∧ (∀ x ∈ G.2, n0 ≤ x.1 ∧ x.1 + x.2.1 < G.1 ∧ ObjAt Z h x.1 x.2.1 x.2.2) ∧ G.2.Pairwise (fun x y => x.1 + x.2.1 < y.1 ∨ y.1 + y.2.1 < x.1)
section Facts
variable {Z : State} {h h' : Heap} {a b : Nat} {q k n0 top : Nat} {ob ob' : Rec} {nd : String × String} {t : String × FieldType × Int32} {a0 : Array Value} {sl : Nat} {v : Value} {H : List (Nat × Nat × Rec)} {G : AH}
theorem fld_fr {C n d : String} (e : h'[a]? = h[a]?) (F : Fld Z h a C n d v) : Fld Z h' a C n d v := by
  obtain ⟨cell, cf, k, i, f, h1, r⟩ := F; exact ⟨cell, cf, k, i, f, e.trans h1, r⟩
theorem exa_fr {C : String} (e : h'[a]? = h[a]?) (F : Exa Z h a C) : Exa Z h' a C := by
  obtain ⟨cell, k, h1, r⟩ := F; exact ⟨cell, k, e.trans h1, r⟩
theorem arrAt_fr {ty : FieldType} {len : Int32} {w : Int32 → Value} (e : h'[a]? = h[a]?) (F : ArrAt Z h a ty len w) : ArrAt Z h' a ty len w := by
  obtain ⟨cl, A, r⟩ := F; exact ⟨cl, ⟨e.trans A.1, A.2⟩, r⟩
theorem ObjAt.frame (e : ∀ b, a ≤ b → b ≤ a + q → h'[b]? = h[b]?) (F : ObjAt Z h a q ob) : ObjAt Z h' a q ob := by
  have e0 := e a (Nat.le_refl _) (Nat.le_add_right _ _)
  refine ⟨exa_fr e0 F.1, fun k nd hk => fld_fr e0 (F.2.1 k nd hk), fun k t hk hq => ⟨fld_fr e0 (F.2.2.1 k t hk hq).1, arrAt_fr (e _ (by omega) (by omega)) (F.2.2.1 k t hk hq).2⟩, fun k t hk hq => fld_fr e0 (F.2.2.2 k t hk hq)⟩
theorem ObjAt.ext (E : Ext h h') (F : ObjAt Z h a q ob) : ObjAt Z h' a q ob := by
  refine ⟨F.1.ext E, fun k nd hk => (F.2.1 k nd hk).ext E, fun k t hk hq => ⟨(F.2.2.1 k t hk hq).1.ext E, ?_⟩, fun k t hk hq => (F.2.2.2 k t hk hq).ext E⟩
  obtain ⟨cl, A, r⟩ := (F.2.2.1 k t hk hq).2; exact ⟨cl, A.ext E, r⟩
theorem wr_ne (W : Wr h h' a sl v) (ne : b ≠ a) : h'[b]? = h[b]? := by
  obtain ⟨cell, -, -, -, rfl⟩ := W; exact Array.getElem?_setIfInBounds_ne (Ne.symm ne)
theorem laidS (hw : ∀ d ∈ tables_1, d.before a0 Z = true) (hk : K.2.1[k]? = some nd) : Laid Z a0 K.1 K.1 nd.1 nd.2 := ((All.mem kS (List.mem_of_getElem? hk)).1).imp (hw _) (hw _)
theorem laidA (hw : ∀ d ∈ tables_1, d.before a0 Z = true) (hk : K.2.2[k]? = some t) : Laid Z a0 K.1 K.1 t.1 (aD t.2.1) := ((All.mem kA (List.mem_of_getElem? hk)).1).imp (hw _) (hw _)
theorem pfS (hk : K.2.1[k]? = some nd) : ∃ ty, parseFieldDescriptor nd.2 = some ty := by
  rcases (All.mem kS (List.mem_of_getElem? hk)).2 with e | e <;> rw [e]
  · exact ⟨.int, by decide⟩
  · exact ⟨.boolean, by decide⟩
theorem pfA (hk : K.2.2[k]? = some t) : parseFieldDescriptor (aD t.2.1) = some (.array t.2.1) := by
  rcases (All.mem kA (List.mem_of_getElem? hk)).2.1 with e | e | e <;> rw [e] <;> decide
theorem ObjAt.putI {x : Int32} (hw : ∀ d ∈ tables_1, d.before a0 Z = true) (F : ObjAt Z h a q ob) (hk : K.2.1[k]? = some nd) (W : Wr h h' a (Jvm.RoadKit.slotOf Z K.1 nd.1 nd.2) (.int x)) : ObjAt Z h' a q (sI ob k x) := by
  obtain ⟨ty, hty⟩ := pfS hk
  refine ⟨F.1.wr W, fun k' nd' hk' => ?_, fun k' t hk' hq => ⟨(F.2.2.1 k' t hk' hq).1.other W (Or.inr (Jvm.RoadKit.slot_ne (laidA hw hk') (laidS hw hk) (Ne.symm (nm_sa hk hk')) (pfA hk') hty)), ?_⟩, fun k' t hk' hq => (F.2.2.2 k' t hk' hq).other W (Or.inr (Jvm.RoadKit.slot_ne (laidA hw hk') (laidS hw hk) (Ne.symm (nm_sa hk hk')) (pfA hk') hty))⟩
  · by_cases e : k' = k
    · subst e; cases hk.symm.trans hk'
      have := (F.2.1 k' nd hk).same W
      simpa [sI] using this
    · obtain ⟨ty', hty'⟩ := pfS hk'
      have := (F.2.1 k' nd' hk').other W (Or.inr (Jvm.RoadKit.slot_ne (laidS hw hk') (laidS hw hk) (nm_ss hk' hk e) hty' hty))
      simpa [sI, e] using this
  · have := arrAt_fr (wr_ne W (by omega)) (F.2.2.1 k' t hk' hq).2
    have e : el t.2.1 (sI ob k x) k' = el t.2.1 ob k' := by funext j; unfold el; split <;> rfl
    rw [e]; exact this
theorem ObjAt.putA (F : ObjAt Z h a q ob) (hk : K.2.2[k]? = some t) (hq : k < q) {x : Value} {j : Int32} (hj : ¬ j < 0 ∧ j < t.2.2) (W : Wr h h' (a + 1 + k) j.toNatClampNeg x)
    (e1 : el t.2.1 ob' k = fun i => if i = j then x else el t.2.1 ob k i) (e2 : ∀ k' t', k' ≠ k → el t' ob' k' = el t' ob k') (e3 : ob'.1 = ob.1) : ObjAt Z h' a q ob' := by
  have u : h'[a]? = h[a]? := wr_ne W (by omega)
  refine ⟨exa_fr u F.1, fun k' nd hk' => by rw [e3]; exact fld_fr u (F.2.1 k' nd hk'), fun k' t' hk' hq' => ⟨fld_fr u (F.2.2.1 k' t' hk' hq').1, ?_⟩, fun k' t' hk' hq' => fld_fr u (F.2.2.2 k' t' hk' hq')⟩
  by_cases e : k' = k
  · subst e; cases hk.symm.trans hk'
    obtain ⟨cl, A, S, V⟩ := (F.2.2.1 k' t hk hq).2
    have inb : ¬ (j < 0 ∨ cl.slots.size ≤ j.toNatClampNeg) := inb_of S hj
    refine ⟨_, A.same W, by rw [sz_set]; exact S, fun i h0 h1 => ?_⟩
    rw [e1]
    by_cases ei : i = j
    · simp only [ei, if_true]; exact get_hit inb rfl
    · simp only [ei, if_false]; rw [get_miss hj.1 h0 ei]; exact V i h0 h1
  · rw [e2 k' _ e]; exact arrAt_fr (wr_ne W (by omega)) (F.2.2.1 k' t' hk' hq').2
theorem el_sA {ty : FieldType} (ht : ty ≠ .long) (j x : Int32) : el ty (sA ob k j x) k = fun i => if i = j then .int x else el ty ob k i := by
  funext i; cases ty <;> first | exact absurd rfl ht | (simp only [el, sA, true_and]; split <;> rfl)
theorem el_sJ (j : Int32) (x : Int64) : el .long (sJ ob k j x) k = fun i => if i = j then .long x else el .long ob k i := by
  funext i; simp only [el, sJ, true_and]; split <;> rfl
theorem el_sA' (j x : Int32) (k' : Nat) (t' : FieldType) (ne : k' ≠ k) : el t' (sA ob k j x) k' = el t' ob k' := by
  funext i; cases t' <;> simp [el, sA, ne]
theorem el_sJ' (j : Int32) (x : Int64) (k' : Nat) (t' : FieldType) (ne : k' ≠ k) : el t' (sJ ob k j x) k' = el t' ob k' := by
  funext i; cases t' <;> simp [el, sJ, ne]
theorem Rep.upd (R : Rep Z n0 h (top, (a, q, ob) :: H)) (hs : h'.size = h.size) (hO : Old Z n0 h') (e : ∀ b, (b < a ∨ a + q < b) → h'[b]? = h[b]?) (F : ObjAt Z h' a q ob') : Rep Z n0 h' (top, (a, q, ob') :: H) := by
  obtain ⟨r1, r2, r3, r4⟩ := R
  refine ⟨hs.trans r1, hO, fun x hx => ?_, ?_⟩
  · rcases List.mem_cons.mp hx with rfl | hx
    · exact ⟨(r3 _ (List.mem_cons_self ..)).1, (r3 _ (List.mem_cons_self ..)).2.1, F⟩
    · obtain ⟨p1, p2, p3⟩ := r3 x (List.mem_cons_of_mem _ hx)
      refine ⟨p1, p2, p3.frame fun b h1 h2 => e b ?_⟩
      have := (List.pairwise_cons.mp r4).1 x hx
      simp only at this
      omega
  · have := List.pairwise_cons.mp r4
    exact List.pairwise_cons.mpr ⟨fun y hy => this.1 y hy, this.2⟩
theorem Rep.objs (R : Rep Z n0 h (top, (a, q, ob) :: H)) : n0 ≤ a ∧ a + q < top ∧ ObjAt Z h a q ob := R.2.2.1 _ (List.mem_cons_self ..)
theorem Rep.putI {x : Int32} (hw : ∀ d ∈ tables_1, d.before a0 Z = true) (R : Rep Z n0 h (top, (a, q, ob) :: H)) (hk : K.2.1[k]? = some nd) (W : Wr h h' a (Jvm.RoadKit.slotOf Z K.1 nd.1 nd.2) (.int x)) : Rep Z n0 h' (top, (a, q, sI ob k x) :: H) :=
  R.upd W.size (R.2.1.wr W R.objs.1) (fun b hb => wr_ne W (by omega)) (R.objs.2.2.putI hw hk W)
theorem Rep.putA {x j : Int32} (R : Rep Z n0 h (top, (a, q, ob) :: H)) (hk : K.2.2[k]? = some t) (hq : k < q) (ht : t.2.1 ≠ .long) (hj : ¬ j < 0 ∧ j < t.2.2) (W : Wr h h' (a + 1 + k) j.toNatClampNeg (.int x)) : Rep Z n0 h' (top, (a, q, sA ob k j x) :: H) :=
  R.upd W.size (R.2.1.wr W (by have := R.objs.1; omega)) (fun b hb => wr_ne W (by omega)) (R.objs.2.2.putA hk hq hj W (el_sA ht j x) (fun k' t' ne => el_sA' j x k' t' ne) rfl)
theorem Rep.putJ {j : Int32} {x : Int64} (R : Rep Z n0 h (top, (a, q, ob) :: H)) (hk : K.2.2[k]? = some t) (hq : k < q) (ht : t.2.1 = .long) (hj : ¬ j < 0 ∧ j < t.2.2) (W : Wr h h' (a + 1 + k) j.toNatClampNeg (.long x)) : Rep Z n0 h' (top, (a, q, sJ ob k j x) :: H) :=
  R.upd W.size (R.2.1.wr W (by have := R.objs.1; omega)) (fun b hb => wr_ne W (by omega)) (R.objs.2.2.putA hk hq hj W (by rw [ht]; exact el_sJ j x) (fun k' t' ne => el_sJ' j x k' t' ne) rfl)
theorem Rep.swap {x y : Nat × Nat × Rec} (R : Rep Z n0 h (top, x :: y :: H)) : Rep Z n0 h (top, y :: x :: H) := by
  obtain ⟨r1, r2, r3, r4⟩ := R
  refine ⟨r1, r2, fun z hz => r3 z ?_, ?_⟩
  · simp only [List.mem_cons] at hz ⊢
    rcases hz with e | e | e
    · exact Or.inr (Or.inl e)
    · exact Or.inl e
    · exact Or.inr (Or.inr e)
  · simp only [List.pairwise_cons, List.mem_cons] at r4 ⊢
    obtain ⟨p1, p2, p3⟩ := r4
    refine ⟨fun z hz => ?_, fun z hz => p1 z (Or.inr hz), p3⟩
    rcases hz with rfl | hz
    · exact (p1 _ (Or.inl rfl)).symm
    · exact p2 z hz
theorem ObjAt.addA (hw : ∀ d ∈ tables_1, d.before a0 Z = true) (F : ObjAt Z h a k ob) (hk : K.2.2[k]? = some t) (A : ArrAt Z h (a + 1 + k) t.2.1 t.2.2 (el t.2.1 ob k)) (W : Wr h h' a (Jvm.RoadKit.slotOf Z K.1 t.1 (aD t.2.1)) (.ref (a + 1 + k))) : ObjAt Z h' a (k + 1) ob := by
  refine ⟨F.1.wr W, fun k' nd hk' => ?_, fun k' t' hk' hq => ?_, fun k' t' hk' hq => ?_⟩
  · obtain ⟨ty', hty'⟩ := pfS hk'
    exact (F.2.1 k' nd hk').other W (Or.inr (Jvm.RoadKit.slot_ne (laidS hw hk') (laidA hw hk) (nm_sa hk' hk) hty' (pfA hk)))
  · by_cases e : k' = k
    · subst e
      have et : t = t' := Option.some.inj (hk.symm.trans hk')
      subst et
      exact ⟨(F.2.2.2 k' t hk (Nat.le_refl _)).same W, arrAt_fr (wr_ne W (by omega)) A⟩
    · obtain ⟨f1, f2⟩ := F.2.2.1 k' t' hk' (by omega)
      exact ⟨f1.other W (Or.inr (Jvm.RoadKit.slot_ne (laidA hw hk') (laidA hw hk) (nm_aa hk' hk e) (pfA hk') (pfA hk))), arrAt_fr (wr_ne W (by omega)) f2⟩
  · exact (F.2.2.2 k' t' hk' (by omega)).other W (Or.inr (Jvm.RoadKit.slot_ne (laidA hw hk') (laidA hw hk) (nm_aa hk' hk (by omega)) (pfA hk') (pfA hk)))
theorem Rep.addA {h1 h2 : Heap} (hw : ∀ d ∈ tables_1, d.before a0 Z = true) (R : Rep Z n0 h (top, (a, k, ob) :: H)) (E : Ext h h1) (s1 : h1.size = top + 1) (htop : top = a + 1 + k) (hk : K.2.2[k]? = some t) (A : ArrAt Z h1 top t.2.1 t.2.2 (el t.2.1 ob k)) (W : Wr h1 h2 a (Jvm.RoadKit.slotOf Z K.1 t.1 (aD t.2.1)) (.ref top)) : Rep Z n0 h2 (top + 1, (a, k + 1, ob) :: H) := by
  obtain ⟨q1, q2, q3⟩ := R.objs
  have hp := List.pairwise_cons.mp R.2.2.2
  have hO : ObjAt Z h2 a (k + 1) ob := by
    subst htop
    exact (q3.ext E).addA hw hk A W
  refine ⟨W.size.trans s1, (R.2.1.ext E).wr W q1, List.forall_mem_cons.mpr ⟨⟨q1, ?_, hO⟩, fun x hx => ?_⟩, List.pairwise_cons.mpr ⟨fun y hy => ?_, hp.2⟩⟩
  · show a + (k + 1) < top + 1; omega
  · obtain ⟨p1, p2, p3⟩ := R.2.2.1 x (List.mem_cons_of_mem _ hx)
    have u1 : a + k < x.1 ∨ x.1 + x.2.1 < a := hp.1 x hx
    have u2 : x.1 + x.2.1 < top := p2
    exact ⟨p1, Nat.lt_succ_of_lt u2, (p3.ext E).frame fun b h1 h2 => wr_ne W (by omega)⟩
  · have u1 : a + k < y.1 ∨ y.1 + y.2.1 < a := hp.1 y hy
    have u2 : y.1 + y.2.1 < top := (R.2.2.1 y (List.mem_cons_of_mem _ hy)).2.1
    show a + (k + 1) < y.1 ∨ y.1 + y.2.1 < a
    omega
theorem arr_new {cA : ClassId} {ty : FieldType} {len : Int32} (A : Arr Z h b (newA cA ty len) ty) (hts : ty = .int ∨ ty = .boolean ∨ ty = .long) (hz : (∀ i, ob.2.1 k i = 0) ∧ (∀ i, ob.2.2 k i = 0)) : ArrAt Z h b ty len (el ty ob k) := by
  refine ⟨_, A, sz_new _ _ _, fun i h0 h1 => ?_⟩
  have hi : ¬ (i < 0 ∨ len.toNatClampNeg ≤ i.toNatClampNeg) := by
    have e0 : (0 : Int32).toInt = 0 := rfl
    simp only [Int32.lt_iff_toInt_lt, Int32.toNatClampNeg] at *
    omega
  rw [get_new hi]
  rcases hts with rfl | rfl | rfl
  · show some (Value.int 0) = some (Value.int (ob.2.1 k i)); rw [hz.1]
  · show some (Value.int 0) = some (Value.int (ob.2.1 k i)); rw [hz.1]
  · show some (Value.long 0) = some (Value.long (ob.2.2 k i)); rw [hz.2]
theorem Rep.start (s : State) : Rep s s.heap.size s.heap (s.heap.size, []) := ⟨rfl, Old.start s, fun x hx => (by cases hx), List.Pairwise.nil⟩
end Facts
/- bodies, decode facts, patterns of local variables -/
abbrev Bdy : Type := MethodName × ByteArray × Nat × Option FieldType × Room
def DAt (M : Bdy) (pc : Nat) (i : Instr) (n q : Nat) : Prop := decode M.2.1 pc = .ok (i, n) ∧ q = pc + n
abbrev Pat : Type := List (Option Slot)
abbrev vi (x : Int32) : Option Slot := some (.val (.int x))
abbrev vl (x : Int64) : Option Slot := some (.val (.long x))
abbrev vr (a : Nat) : Option Slot := some (.val (.ref a))
abbrev v2 : Option Slot := some .second
abbrev vn : Option Slot := none
def pget : Pat → Nat → Option Slot
  | [], _ => none
  | x :: _, 0 => x
  | _ :: l, n + 1 => pget l n
theorem pget_eq : ∀ (P : Pat) (i : Nat), pget P i = (P[i]?).join
  | [], _ => by simp [pget]
  | x :: l, 0 => by simp [pget]
  | x :: l, n + 1 => by simp [pget, pget_eq l n]
def pput : Pat → Nat → Option Slot → Pat
  | [], _, _ => []
  | _ :: l, 0, y => y :: l
  | x :: l, n + 1, y => x :: pput l n y
theorem pget_pput : ∀ (P : Pat) (i j : Nat) (y : Option Slot) (s : Slot), pget (pput P i y) j = some s → (j = i ∧ y = some s) ∨ (j ≠ i ∧ pget P j = some s)
  | [], _, _, _, _, h => by simp [pput, pget] at h
  | x :: l, 0, 0, y, s, h => Or.inl ⟨rfl, h⟩
  | x :: l, 0, j + 1, y, s, h => Or.inr ⟨by omega, h⟩
  | x :: l, i + 1, 0, y, s, h => Or.inr ⟨by omega, h⟩
  | x :: l, i + 1, j + 1, y, s, h => by
    rcases pget_pput l i j y s h with ⟨e, r⟩ | ⟨e, r⟩
    · exact Or.inl ⟨by omega, r⟩
    · exact Or.inr ⟨by omega, r⟩
/-- a two-word value whose first word is at i is forgotten -/
def pk1 (P : Pat) (i : Nat) : Pat := match pget P i with
  | some (.val (.long _)) => pput P i none
  | some (.val (.double _)) => pput P i none
  | _ => P
def pk2 (P : Pat) (i : Nat) : Pat := match pget P i with
  | some .second => pput P i none
  | _ => P
def pkp (P : Pat) : Nat → Pat
  | 0 => P
  | i + 1 => pk1 P i
def ps1 (P : Pat) (i : Nat) (v : Value) : Pat := pput (pk2 (pkp P i) (i + 1)) i (some (.val v))
def ps2 (P : Pat) (i : Nat) (v : Value) : Pat := pput (pput (pk2 (pkp P i) (i + 2)) i (some (.val v))) (i + 1) (some .second)
def WFl (L : Array Slot) : Prop := (∀ i : Nat, L[i]? = some .second → ∃ (j : Nat) (v : Value), i = j + 1 ∧ L[j]? = some (.val v) ∧ v.category = 2) ∧ (∀ (i : Nat) (v : Value), L[i]? = some (.val v) → v.category = 2 → L[i + 1]? = some .second)
def Fits (P : Pat) (L : Array Slot) : Prop := (∀ i s, pget P i = some s → L[i]? = some s) ∧ WFl L
theorem pk1_sub {P : Pat} {i j : Nat} {s : Slot} (h : pget (pk1 P i) j = some s) : pget P j = some s ∧ (j = i → ∀ w : Value, s = .val w → w.category = 1) := by
  unfold pk1 at h
  split at h
  · rcases pget_pput _ _ _ _ _ h with ⟨-, e⟩ | ⟨e, r⟩
    · cases e
    · exact ⟨r, fun q => absurd q e⟩
  · rcases pget_pput _ _ _ _ _ h with ⟨-, e⟩ | ⟨e, r⟩
    · cases e
    · exact ⟨r, fun q => absurd q e⟩
  · rename_i h1 h2
    refine ⟨h, fun q w e => ?_⟩
    subst q e
    cases w <;> first | rfl | exact absurd h (h1 _) | exact absurd h (h2 _)
theorem pk2_sub {P : Pat} {i j : Nat} {s : Slot} (h : pget (pk2 P i) j = some s) : pget P j = some s ∧ (j = i → s ≠ .second) := by
  unfold pk2 at h
  split at h
  · rcases pget_pput _ _ _ _ _ h with ⟨-, e⟩ | ⟨e, r⟩
    · cases e
    · exact ⟨r, fun q => absurd q e⟩
  · rename_i h1
    refine ⟨h, fun q e => ?_⟩
    subst q e; exact h1 h
theorem pkp_sub {P : Pat} {i j : Nat} {s : Slot} (h : pget (pkp P i) j = some s) : pget P j = some s ∧ (j + 1 = i → ∀ w : Value, s = .val w → w.category = 1) := by
  cases i with
  | zero => exact ⟨h, fun q => by omega⟩
  | succ i => obtain ⟨h1, h2⟩ := pk1_sub (show pget (pk1 P i) j = some s from h); exact ⟨h1, fun q => h2 (by omega)⟩
theorem setAt_eq {L : Array Slot} {i : Nat} {x : Slot} (hi : i < L.size) : Jvm.setAt L i x = some (L.setIfInBounds i x) := by simp [Jvm.setAt, hi]
theorem sl_second {L : Array Slot} {i : Nat} {v : Value} (ho : L[i]? = some .second) : storeLocals L i v = (Jvm.setAt L (i - 1) .unset).bind fun l => storeSelf l i v := by
  unfold storeLocals; rw [ho]; rfl
theorem sl_unset {L : Array Slot} {i : Nat} {v : Value} (ho : L[i]? = some .unset) : storeLocals L i v = storeSelf L i v := by
  unfold storeLocals; rw [ho]; rfl
theorem sl_val {L : Array Slot} {i : Nat} {v o : Value} (ho : L[i]? = some (.val o)) : storeLocals L i v = if o.category = 2 then (Jvm.setAt L (i + 1) .unset).bind fun l => storeSelf l i v else storeSelf L i v := by
  unfold storeLocals; rw [ho]; rfl
theorem ss_one {L : Array Slot} {i : Nat} {v : Value} (hi : i < L.size) (hv : ¬ v.category = 2) : storeSelf L i v = some (L.setIfInBounds i (.val v)) := by
  unfold storeSelf; rw [setAt_eq hi]; simp [hv]
theorem ss_two {L : Array Slot} {i : Nat} {v : Value} {o : Slot} (hi : i < L.size) (hv : v.category = 2) (ho : L[i + 1]? = some o) : storeSelf L i v = (match o with
    | .val old => if old.category = 2 then (Jvm.setAt (L.setIfInBounds i (.val v)) (i + 2) .unset).bind fun l => Jvm.setAt l (i + 1) .second else Jvm.setAt (L.setIfInBounds i (.val v)) (i + 1) .second
    | _ => Jvm.setAt (L.setIfInBounds i (.val v)) (i + 1) .second) := by
  have e : (L.setIfInBounds i (.val v))[i + 1]? = some o := by rw [Array.getElem?_setIfInBounds_ne (by omega)]; exact ho
  unfold storeSelf; rw [setAt_eq hi]
  show (if v.category = 2 then _ else _) = _
  rw [if_pos hv, e]
  cases o <;> rfl
theorem cat12 (v : Value) : v.category = 1 ∨ v.category = 2 := by cases v <;> first | exact Or.inl rfl | exact Or.inr rfl
/-- a one-word store: what stands elsewhere stays, but for the halves of a two-word value that it breaks -/
theorem store_one {L : Array Slot} {i : Nat} {v : Value} (hW : WFl L) (hi : i < L.size) (hv : v.category = 1) :
    ∃ L', storeLocals L i v = some L' ∧ L'.size = L.size ∧ WFl L' ∧ L'[i]? = some (.val v) ∧ ∀ j, j ≠ i → L'[j]? = L[j]? ∨ (j + 1 = i ∧ L[i]? = some .second) ∨ (j = i + 1 ∧ L[j]? = some .second) := by
  have hv2 : ¬ v.category = 2 := by omega
  cases ho : L[i]? with
  | none => rw [Array.getElem?_eq_none_iff] at ho; omega
  | some o =>
    cases o with
    | unset =>
      refine ⟨L.setIfInBounds i (.val v), ?_, by simp, ?_, by simp [hi], fun j hj => Or.inl (Array.getElem?_setIfInBounds_ne (Ne.symm hj))⟩
      · rw [sl_unset ho, ss_one hi hv2]
      · refine ⟨fun j hj => ?_, fun j w hj hw => ?_⟩
        · by_cases e : j = i
          · subst e; simp [hi] at hj
          · rw [Array.getElem?_setIfInBounds_ne (Ne.symm e)] at hj
            obtain ⟨j', w, e1, e2, e3⟩ := hW.1 j hj
            refine ⟨j', w, e1, ?_, e3⟩
            rw [Array.getElem?_setIfInBounds_ne]; exact e2
            intro q; subst q; rw [ho] at e2; cases e2
        · by_cases e : j = i
          · subst e; simp [hi] at hj; subst hj; omega
          · rw [Array.getElem?_setIfInBounds_ne (Ne.symm e)] at hj
            have := hW.2 j w hj hw
            rw [Array.getElem?_setIfInBounds_ne]; exact this
            intro q; subst q; rw [ho] at this; cases this
    | second =>
      obtain ⟨j0, w0, rfl, f2, f3⟩ := hW.1 i ho
      have hj0 : j0 < L.size := by omega
      refine ⟨(L.setIfInBounds j0 .unset).setIfInBounds (j0 + 1) (.val v), ?_, by simp, ?_, by simp [hi], fun j hj => ?_⟩
      · rw [sl_second ho, show j0 + 1 - 1 = j0 from rfl, setAt_eq hj0]; exact ss_one (by simpa using hi) hv2
      · refine ⟨fun j hj => ?_, fun j w hj hw => ?_⟩
        · by_cases e : j = j0 + 1
          · subst e; simp [hi] at hj
          · rw [Array.getElem?_setIfInBounds_ne (Ne.symm e)] at hj
            by_cases e' : j = j0
            · subst e'; simp [hj0] at hj
            · rw [Array.getElem?_setIfInBounds_ne (Ne.symm e')] at hj
              obtain ⟨j', w, e1, e2, e3⟩ := hW.1 j hj
              refine ⟨j', w, e1, ?_, e3⟩
              rw [Array.getElem?_setIfInBounds_ne, Array.getElem?_setIfInBounds_ne]
              · exact e2
              · intro q; subst q; omega
              · intro q; subst q; rw [ho] at e2; cases e2
        · by_cases e : j = j0 + 1
          · subst e; simp [hi] at hj; subst hj; omega
          · rw [Array.getElem?_setIfInBounds_ne (Ne.symm e)] at hj
            by_cases e' : j = j0
            · subst e'; simp [hj0] at hj
            · rw [Array.getElem?_setIfInBounds_ne (Ne.symm e')] at hj
              have := hW.2 j w hj hw
              rw [Array.getElem?_setIfInBounds_ne, Array.getElem?_setIfInBounds_ne]
              · exact this
              · intro q; subst q; rw [f2] at this; cases this
              · omega
      · by_cases e' : j = j0
        · exact Or.inr (Or.inl ⟨by omega, rfl⟩)
        · left; rw [Array.getElem?_setIfInBounds_ne (Ne.symm hj), Array.getElem?_setIfInBounds_ne (Ne.symm e')]
    | val old =>
      by_cases hc : old.category = 2
      · have f2 := hW.2 i old ho hc
        have hi1 : i + 1 < L.size := (Array.getElem?_eq_some_iff.mp f2).1
        refine ⟨(L.setIfInBounds (i + 1) .unset).setIfInBounds i (.val v), ?_, by simp, ?_, by simp [hi], fun j hj => ?_⟩
        · rw [sl_val ho, if_pos hc, setAt_eq hi1]; exact ss_one (by simpa using hi) hv2
        · refine ⟨fun j hj => ?_, fun j w hj hw => ?_⟩
          · by_cases e : j = i
            · subst e; simp [hi] at hj
            · rw [Array.getElem?_setIfInBounds_ne (Ne.symm e)] at hj
              by_cases e' : j = i + 1
              · subst e'; simp [hi1] at hj
              · rw [Array.getElem?_setIfInBounds_ne (Ne.symm e')] at hj
                obtain ⟨j', w, e1, e2, e3⟩ := hW.1 j hj
                refine ⟨j', w, e1, ?_, e3⟩
                rw [Array.getElem?_setIfInBounds_ne, Array.getElem?_setIfInBounds_ne]
                · exact e2
                · intro q; subst q; rw [f2] at e2; cases e2
                · omega
          · by_cases e : j = i
            · subst e; simp [hi] at hj; subst hj; omega
            · rw [Array.getElem?_setIfInBounds_ne (Ne.symm e)] at hj
              by_cases e' : j = i + 1
              · subst e'; simp [hi1] at hj
              · rw [Array.getElem?_setIfInBounds_ne (Ne.symm e')] at hj
                have := hW.2 j w hj hw
                rw [Array.getElem?_setIfInBounds_ne, Array.getElem?_setIfInBounds_ne]
                · exact this
                · omega
                · intro q; subst q; rw [ho] at this; cases this
        · by_cases e' : j = i + 1
          · subst e'; exact Or.inr (Or.inr ⟨rfl, f2⟩)
          · left; rw [Array.getElem?_setIfInBounds_ne (Ne.symm hj), Array.getElem?_setIfInBounds_ne (Ne.symm e')]
      · refine ⟨L.setIfInBounds i (.val v), ?_, by simp, ?_, by simp [hi], fun j hj => Or.inl (Array.getElem?_setIfInBounds_ne (Ne.symm hj))⟩
        · rw [sl_val ho, if_neg hc, ss_one hi hv2]
        · refine ⟨fun j hj => ?_, fun j w hj hw => ?_⟩
          · by_cases e : j = i
            · subst e; simp [hi] at hj
            · rw [Array.getElem?_setIfInBounds_ne (Ne.symm e)] at hj
              obtain ⟨j', w, e1, e2, e3⟩ := hW.1 j hj
              refine ⟨j', w, e1, ?_, e3⟩
              rw [Array.getElem?_setIfInBounds_ne]; exact e2
              intro q; subst q; rw [ho] at e2; cases e2; omega
          · by_cases e : j = i
            · subst e; simp [hi] at hj; subst hj; omega
            · rw [Array.getElem?_setIfInBounds_ne (Ne.symm e)] at hj
              have := hW.2 j w hj hw
              rw [Array.getElem?_setIfInBounds_ne]; exact this
              intro q; subst q; rw [ho] at this; cases this
theorem Fits.store1 {P : Pat} {L : Array Slot} {i : Nat} {v : Value} (h : Fits P L) (hi : i < L.size) (hv : v.category = 1) :
    ∃ L', storeLocals L i v = some L' ∧ L'.size = L.size ∧ Fits (ps1 P i v) L' := by
  obtain ⟨L', e1, e2, e3, e4, e5⟩ := store_one h.2 hi hv
  refine ⟨L', e1, e2, fun j s hj => ?_, e3⟩
  rcases pget_pput _ _ _ _ _ hj with ⟨rfl, q⟩ | ⟨ne, q⟩
  · rw [e4]; exact q
  · obtain ⟨q1, q2⟩ := pk2_sub q
    obtain ⟨q3, q4⟩ := pkp_sub q1
    have hL := h.1 j s q3
    rcases e5 j ne with r | ⟨r1, r2⟩ | ⟨r1, r2⟩
    · rw [r]; exact hL
    · obtain ⟨j', w, z1, z2, z3⟩ := h.2.1 i r2
      have : j' = j := by omega
      subst this
      rw [hL] at z2; cases z2
      have := q4 r1 w rfl; omega
    · rw [hL] at r2; cases r2
      exact absurd rfl (q2 r1)
theorem st_ph1 {L : Array Slot} {i : Nat} {v : Value} (hW : WFl L) (hi : i + 1 < L.size) :
    ∃ A : Array Slot, storeLocals L i v = storeSelf A i v ∧ A.size = L.size ∧ (∀ j, j ≠ i → j ≠ i + 1 → A[j]? = L[j]? ∨ (j + 1 = i ∧ L[i]? = some .second ∧ A[j]? = some .unset)) ∧ (A[i + 1]? = L[i + 1]? ∨ (A[i + 1]? = some .unset ∧ L[i + 1]? = some .second)) ∧ (L[i]? = some .second → ∀ j, j + 1 = i → A[j]? = some .unset) := by
  have hi0 : i < L.size := by omega
  cases ho : L[i]? with
  | none => rw [Array.getElem?_eq_none_iff] at ho; omega
  | some o =>
    cases o with
    | unset => exact ⟨L, sl_unset ho, rfl, fun j _ _ => Or.inl rfl, Or.inl rfl, fun q => by cases q⟩
    | second =>
      obtain ⟨j0, w0, rfl, f2, f3⟩ := hW.1 i ho
      have hj0 : j0 < L.size := by omega
      refine ⟨L.setIfInBounds j0 .unset, by rw [sl_second ho, show j0 + 1 - 1 = j0 from rfl, setAt_eq hj0]; rfl, by simp, fun j h1 h2 => ?_, Or.inl (Array.getElem?_setIfInBounds_ne (by omega)), fun _ j hj => ?_⟩
      · by_cases e : j = j0
        · subst e; exact Or.inr ⟨rfl, rfl, by simp [hj0]⟩
        · exact Or.inl (Array.getElem?_setIfInBounds_ne (Ne.symm e))
      · have : j = j0 := by omega
        subst this; simp [hj0]
    | val old =>
      by_cases hc : old.category = 2
      · refine ⟨L.setIfInBounds (i + 1) .unset, by rw [sl_val ho, if_pos hc, setAt_eq hi]; rfl, by simp, fun j h1 h2 => Or.inl (Array.getElem?_setIfInBounds_ne (Ne.symm h2)), Or.inr ⟨by simp [hi], hW.2 i old ho hc⟩, fun q => by cases q⟩
      · exact ⟨L, by rw [sl_val ho, if_neg hc], rfl, fun j _ _ => Or.inl rfl, Or.inl rfl, fun q => by cases q⟩
theorem st_ph2 {A : Array Slot} {i : Nat} {v : Value} (hi : i + 1 < A.size) (hv : v.category = 2) (hn : ∀ w : Value, A[i + 1]? = some (.val w) → w.category = 2 → i + 2 < A.size) :
    ∃ L', storeSelf A i v = some L' ∧ L'.size = A.size ∧ L'[i]? = some (.val v) ∧ L'[i + 1]? = some .second ∧ (∀ j, j ≠ i → j ≠ i + 1 → L'[j]? = A[j]? ∨ (j = i + 2 ∧ L'[j]? = some .unset ∧ ∃ w : Value, A[i + 1]? = some (.val w) ∧ w.category = 2)) ∧ ((∃ w : Value, A[i + 1]? = some (.val w) ∧ w.category = 2) → L'[i + 2]? = some .unset) := by
  have hi0 : i < A.size := by omega
  have eB : (A.setIfInBounds i (.val v))[i + 1]? = A[i + 1]? := Array.getElem?_setIfInBounds_ne (by omega)
  have plain : (∀ w : Value, A[i + 1]? = some (.val w) → w.category ≠ 2) → storeSelf A i v = some ((A.setIfInBounds i (.val v)).setIfInBounds (i + 1) .second) := fun hq => by
    cases ho : A[i + 1]? with
    | none => rw [Array.getElem?_eq_none_iff] at ho; omega
    | some o => cases o with
      | unset => rw [ss_two hi0 hv ho]; exact setAt_eq (by simpa using hi)
      | second => rw [ss_two hi0 hv ho]; exact setAt_eq (by simpa using hi)
      | val w => have := hq w ho; rw [ss_two hi0 hv ho]; simp only [if_neg this]; exact setAt_eq (by simpa using hi)
  by_cases hw : ∃ w : Value, A[i + 1]? = some (.val w) ∧ w.category = 2
  · obtain ⟨w, h1, h2⟩ := hw
    have h3 := hn w h1 h2
    refine ⟨((A.setIfInBounds i (.val v)).setIfInBounds (i + 2) .unset).setIfInBounds (i + 1) .second, by rw [ss_two hi0 hv h1]; simp only [if_pos h2]; rw [setAt_eq (by simpa using h3)]; exact setAt_eq (by simpa using hi), by simp, ?_, by simp [hi], fun j a b => ?_, fun _ => ?_⟩
    · rw [Array.getElem?_setIfInBounds_ne (by omega), Array.getElem?_setIfInBounds_ne (by omega)]; simp [hi0]
    · rw [Array.getElem?_setIfInBounds_ne (by omega)]
      by_cases e : j = i + 2
      · subst e; exact Or.inr ⟨rfl, by simp [h3], w, h1, h2⟩
      · left; rw [Array.getElem?_setIfInBounds_ne (by omega), Array.getElem?_setIfInBounds_ne (by omega)]
    · rw [Array.getElem?_setIfInBounds_ne (by omega)]; simp [h3]
  · refine ⟨_, plain fun w h1 h2 => hw ⟨w, h1, h2⟩, by simp, ?_, by simp [hi], fun j a b => Or.inl ?_, fun q => absurd q hw⟩
    · rw [Array.getElem?_setIfInBounds_ne (by omega)]; simp [hi0]
    · rw [Array.getElem?_setIfInBounds_ne (by omega), Array.getElem?_setIfInBounds_ne (by omega)]
theorem store_two {L : Array Slot} {i : Nat} {v : Value} (hW : WFl L) (hi : i + 1 < L.size) (hv : v.category = 2) :
    ∃ L', storeLocals L i v = some L' ∧ L'.size = L.size ∧ WFl L' ∧ L'[i]? = some (.val v) ∧ L'[i + 1]? = some .second ∧ ∀ j, j ≠ i → j ≠ i + 1 → L'[j]? = L[j]? ∨ (j + 1 = i ∧ L[i]? = some .second) ∨ (j = i + 2 ∧ L[j]? = some .second) := by
  obtain ⟨A, a1, a2, a3, a4, a5⟩ := st_ph1 (v := v) hW hi
  have a6 : ∀ w : Value, A[i + 1]? = some (.val w) → w.category = 2 → L[i + 2]? = some .second := fun w h1 h2 => by
    rcases a4 with e | ⟨e, -⟩
    · rw [e] at h1; exact hW.2 _ _ h1 h2
    · rw [e] at h1; cases h1
  obtain ⟨L', b1, b2, b3, b4, b5, b6⟩ := st_ph2 (A := A) (i := i) (v := v) (by omega) hv (fun w h1 h2 => by have := (Array.getElem?_eq_some_iff.mp (a6 w h1 h2)).1; omega)
  have c : ∀ j, j ≠ i → j ≠ i + 1 → L'[j]? = L[j]? ∨ (j + 1 = i ∧ L[i]? = some .second ∧ L'[j]? = some .unset) ∨ (j = i + 2 ∧ L[j]? = some .second ∧ L'[j]? = some .unset) := fun j h1 h2 => by
    rcases b5 j h1 h2 with e | ⟨e1, e2, w, e3, e4⟩
    · rcases a3 j h1 h2 with r | ⟨r1, r2, r3⟩
      · exact Or.inl (e.trans r)
      · exact Or.inr (Or.inl ⟨r1, r2, e.trans r3⟩)
    · subst e1; exact Or.inr (Or.inr ⟨rfl, a6 w e3 e4, e2⟩)
  have cs : L[i]? = some .second → ∀ j, j + 1 = i → L'[j]? = some .unset := fun q j hj => by
    rcases b5 j (by omega) (by omega) with e | ⟨e1, -⟩
    · exact e.trans (a5 q j hj)
    · omega
  have c2 : L[i + 2]? = some .second → L'[i + 2]? = some .unset := fun q => by
    obtain ⟨j', w, z1, z2, z3⟩ := hW.1 _ q
    have : j' = i + 1 := by omega
    subst this
    rcases a4 with e | ⟨-, e⟩
    · exact b6 ⟨w, e.trans z2, z3⟩
    · rw [e] at z2; cases z2
  refine ⟨L', a1.trans b1, b2.trans a2, ⟨fun j hj => ?_, fun j w hj hw => ?_⟩, b3, b4, fun j h1 h2 => ?_⟩
  · by_cases e0 : j = i
    · subst e0; rw [b3] at hj; cases hj
    by_cases e1 : j = i + 1
    · exact ⟨i, v, e1, b3, hv⟩
    rcases c j e0 e1 with r | ⟨-, -, r⟩ | ⟨-, -, r⟩
    · rw [r] at hj
      obtain ⟨j', w, z1, z2, z3⟩ := hW.1 j hj
      refine ⟨j', w, z1, ?_, z3⟩
      have n0 : j' ≠ i := by omega
      by_cases n1 : j' = i + 1
      · have : j = i + 2 := by omega
        subst this
        rw [c2 hj] at r; rw [hj] at r; cases r
      rcases c j' n0 n1 with u | ⟨u, -, -⟩ | ⟨-, u, -⟩
      · exact u.trans z2
      · omega
      · rw [z2] at u; cases u
    · rw [r] at hj; cases hj
    · rw [r] at hj; cases hj
  · by_cases e0 : j = i
    · subst e0; exact b4
    by_cases e1 : j = i + 1
    · subst e1; rw [b4] at hj; cases hj
    rcases c j e0 e1 with r | ⟨-, -, r⟩ | ⟨-, -, r⟩
    · have hj' := hj
      rw [r] at hj
      have z := hW.2 j w hj hw
      by_cases n0 : j + 1 = i
      · subst n0; rw [cs z j rfl] at hj'; cases hj'
      by_cases n1 : j + 1 = i + 1
      · omega
      rcases c (j + 1) n0 n1 with u | ⟨u1, u2, -⟩ | ⟨u, -, -⟩
      · exact u.trans z
      · obtain ⟨j', w', y1, y2, y3⟩ := hW.1 i u2
        have : j' = j + 1 := by omega
        subst this; rw [z] at y2; cases y2
      · omega
    · rw [r] at hj; cases hj
    · rw [r] at hj; cases hj
  · rcases c j h1 h2 with r | ⟨r1, r2, -⟩ | ⟨r1, r2, -⟩
    · exact Or.inl r
    · exact Or.inr (Or.inl ⟨r1, r2⟩)
    · exact Or.inr (Or.inr ⟨r1, r2⟩)
theorem Fits.store2 {P : Pat} {L : Array Slot} {i : Nat} {v : Value} (h : Fits P L) (hi : i + 1 < L.size) (hv : v.category = 2) :
    ∃ L', storeLocals L i v = some L' ∧ L'.size = L.size ∧ Fits (ps2 P i v) L' := by
  obtain ⟨L', e1, e2, e3, e4, e4', e5⟩ := store_two h.2 hi hv
  refine ⟨L', e1, e2, fun j s hj => ?_, e3⟩
  rcases pget_pput _ _ _ _ _ hj with ⟨rfl, q⟩ | ⟨ne, q⟩
  · rw [e4']; exact q
  rcases pget_pput _ _ _ _ _ q with ⟨rfl, q'⟩ | ⟨ne', q'⟩
  · rw [e4]; exact q'
  obtain ⟨q1, q2⟩ := pk2_sub q'
  obtain ⟨q3, q4⟩ := pkp_sub q1
  have hL := h.1 j s q3
  rcases e5 j ne' ne with r | ⟨r1, r2⟩ | ⟨r1, r2⟩
  · rw [r]; exact hL
  · obtain ⟨j', w, z1, z2, z3⟩ := h.2.1 i r2
    have : j' = j := by omega
    subst this
    rw [hL] at z2; cases z2
    have := q4 r1 w rfl; omega
  · rw [hL] at r2; cases r2
    exact absurd rfl (q2 r1)
/- what a body does from a place on -/
def Runs (C : Ctx) (M : Bdy) (k n pc : Nat) (P : Pat) (S : List Value) (G : AH) (Q : Option Value → AH → Prop) : Prop :=
  Ok C → ∀ (p : Program) (e : Env) (s : State) (m : MethodId) (args : Array Value) (below : List Frame) (meth : Method) (c : Code) (T : State) (locs : List Loc) (L : Array Slot),
    p.tables.exec = Jvm.exec → c.code = M.2.1 → c.maxLocals = M.2.2.1 → meth.sig.returnType = M.2.2.2.1 → meth.name = M.1.name → s.vm.findClass M.1.cls = some m.cls → C.2.1.Warmed39 s.vm →
    Fits P L → L.size = M.2.2.1 → Stand p C.1 e M.2.2.2.2 s m args below meth c T locs k n → Rep C.2.1 C.2.2.1 T.heap G → Fr C.2.2.1 locs →
    ∃ (T' : State) (locs' : List Loc) (k' n' : Nat) (r : Option Value) (G' : AH), Stand p C.1 e M.2.2.2.2 s m args below meth c T' locs' k' n' ∧ k' ≤ M.2.2.2.2.cells ∧ n' ≤ M.2.2.2.2.slots ∧ Rep C.2.1 C.2.2.1 T'.heap G' ∧ Fr C.2.2.1 locs' ∧ Q r G' ∧
      (M.2.2.2.1 = none → r = none) ∧
      ∀ fs : List Frame, (∀ (f : JFrame) (acts : List Action), f.method = m → f.locked = none → f.entered = [] → (doReturn e (T'.setTop f) acts r).1 = T'.setFrames fs) → Steps p.tables e below (T.setTop (mkF m pc L S)) (T'.setFrames fs)
section Rules
variable {C : Ctx} {M : Bdy} {k n pc q : Nat} {P P' : Pat} {S S' : List Value} {G : AH} {Q : Option Value → AH → Prop}
/-- a step that leaves the heap alone -/
theorem Runs.pure {i : Instr} {len : Nat} (d : DAt M pc i len q) {pc' : Nat}
    (st : ∀ (p : Program) (e : Env) (s : State) (m : MethodId) (args : Array Value) (below : List Frame) (meth : Method) (c : Code) (T : State) (locs : List Loc) (L : Array Slot), Ok C → p.tables.exec = Jvm.exec → s.vm.findClass M.1.cls = some m.cls → C.2.1.Warmed39 s.vm → decode c.code pc = .ok (i, len) → Fits P L → L.size = M.2.2.1 → Rep C.2.1 C.2.2.1 T.heap G →
      Stand p C.1 e M.2.2.2.2 s m args below meth c T locs k n → ∃ L', Fits P' L' ∧ L'.size = M.2.2.1 ∧ ∀ t, Steps p.tables e below (T.setTop (mkF m pc' L' S')) t → Steps p.tables e below (T.setTop (mkF m pc L S)) t)
    (h : Runs C M k n pc' P' S' G Q) : Runs C M k n pc P S G Q := by
  intro hw p e s m args below meth c T locs L hx hby hml hret hnm hown hZ hP hsz X hR hF
  obtain ⟨L', f1, f2, f3⟩ := st p e s m args below meth c T locs L hw hx hown hZ (hb hby d.1) hP hsz hR X
  obtain ⟨T', locs', k', n', r, G', g1, g2, g3, g4, g5, g6, g7, g8⟩ := h hw p e s m args below meth c T locs L' hx hby hml hret hnm hown hZ f1 f2 X hR hF
  exact ⟨T', locs', k', n', r, G', g1, g2, g3, g4, g5, g6, g7, fun fs hr => f3 _ (g8 fs hr)⟩
/-- a step that keeps the locals and what the heap says -/
theorem Runs.stk {i : Instr} {len : Nat} (d : DAt M pc i len q)
    (st : ∀ (p : Program) (e : Env) (s : State) (m : MethodId) (args : Array Value) (below : List Frame) (meth : Method) (c : Code) (T : State) (locs : List Loc) (L : Array Slot), p.tables.exec = Jvm.exec → decode c.code pc = .ok (i, len) → Fits P L →
      Stand p C.1 e M.2.2.2.2 s m args below meth c T locs k n → ∀ t, Steps p.tables e below (T.setTop (mkF m (pc + len) L S')) t → Steps p.tables e below (T.setTop (mkF m pc L S)) t)
    (h : Runs C M k n q P S' G Q) : Runs C M k n pc P S G Q := by
  have hq := d.2
  subst hq
  exact Runs.pure d (fun p e s m args below meth c T locs L _ hx _ _ hd hP hsz _ X => ⟨L, hP, hsz, st p e s m args below meth c T locs L hx hd hP X⟩) h
theorem Runs.iloadN {j : Fin 4} {v : Int32} (d : DAt M pc (.iload_n j) 1 q) (hl : pget P j.val = vi v) (h : Runs C M k n q P (.int v :: S) G Q) : Runs C M k n pc P S G Q :=
  Runs.stk d (fun p e s m args below meth c T locs L hx hd hP X t r => XS.iloadN (g := mkF m pc L S) X.here hx rfl hd (hP.1 _ _ hl) r) h
theorem Runs.iload {j : Nat} {v : Int32} (d : DAt M pc (.iload j) 2 q) (hl : pget P j = vi v) (h : Runs C M k n q P (.int v :: S) G Q) : Runs C M k n pc P S G Q :=
  Runs.stk d (fun p e s m args below meth c T locs L hx hd hP X t r => XS.iload (g := mkF m pc L S) X.here hx rfl hd (hP.1 _ _ hl) r) h
theorem Runs.lloadN {j : Fin 4} {v : Int64} (d : DAt M pc (.lload_n j) 1 q) (hl : pget P j.val = vl v) (h : Runs C M k n q P (.long v :: S) G Q) : Runs C M k n pc P S G Q :=
  Runs.stk d (fun p e s m args below meth c T locs L hx hd hP X t r => XS.lloadN (g := mkF m pc L S) X.here hx rfl hd (hP.1 _ _ hl) r) h
theorem Runs.lload {j : Nat} {v : Int64} (d : DAt M pc (.lload j) 2 q) (hl : pget P j = vl v) (h : Runs C M k n q P (.long v :: S) G Q) : Runs C M k n pc P S G Q :=
  Runs.stk d (fun p e s m args below meth c T locs L hx hd hP X t r => XS.lload (g := mkF m pc L S) X.here hx rfl hd (hP.1 _ _ hl) r) h
theorem Runs.aloadN {j : Fin 4} {v : Nat} (d : DAt M pc (.aload_n j) 1 q) (hl : pget P j.val = vr v) (h : Runs C M k n q P (.ref v :: S) G Q) : Runs C M k n pc P S G Q :=
  Runs.stk d (fun p e s m args below meth c T locs L hx hd hP X t r => XS.aloadN (g := mkF m pc L S) X.here hx rfl hd (hP.1 _ _ hl) rfl r) h
theorem Runs.aload {j : Nat} {v : Nat} (d : DAt M pc (.aload j) 2 q) (hl : pget P j = vr v) (h : Runs C M k n q P (.ref v :: S) G Q) : Runs C M k n pc P S G Q :=
  Runs.stk d (fun p e s m args below meth c T locs L hx hd hP X t r => XS.aload (g := mkF m pc L S) X.here hx rfl hd (hP.1 _ _ hl) rfl r) h
theorem Runs.iconst {i : Int} {v : Int32} (d : DAt M pc (.iconst i) 1 q) (hv : Int32.ofInt i = v) (h : Runs C M k n q P (.int v :: S) G Q) : Runs C M k n pc P S G Q :=
  Runs.stk d (fun p e s m args below meth c T locs L hx hd hP X t r => XS.iconst (g := mkF m pc L S) X.here hx rfl hd (by rw [hv]; exact r)) h
theorem Runs.bipush {i : Int} {v : Int32} (d : DAt M pc (.bipush i) 2 q) (hv : (Int8.ofInt i).toInt32 = v) (h : Runs C M k n q P (.int v :: S) G Q) : Runs C M k n pc P S G Q :=
  Runs.stk d (fun p e s m args below meth c T locs L hx hd hP X t r => XS.bipush (g := mkF m pc L S) X.here hx rfl hd (by rw [hv]; exact r)) h
theorem Runs.sipush {i : Int} {v : Int32} (d : DAt M pc (.sipush i) 3 q) (hv : (Int16.ofInt i).toInt32 = v) (h : Runs C M k n q P (.int v :: S) G Q) : Runs C M k n pc P S G Q :=
  Runs.stk d (fun p e s m args below meth c T locs L hx hd hP X t r => XS.sipush (g := mkF m pc L S) X.here hx rfl hd (by rw [hv]; exact r)) h
theorem Runs.lconst {i : Fin 2} {v : Int64} (d : DAt M pc (.lconst i) 1 q) (hv : Int64.ofNat i = v) (h : Runs C M k n q P (.long v :: S) G Q) : Runs C M k n pc P S G Q :=
  Runs.stk d (fun p e s m args below meth c T locs L hx hd hP X t r => Jvm.Free.XT.lconstV (g := mkF m pc L S) X.here hx rfl v hd hv r) h
theorem Runs.ldc {i : Nat} {v : Int32} (d : DAt M pc (.ldc i) 2 q) (w : Jvm.Cond.constant M.1.cls i v ∈ tables_1) (h : Runs C M k n q P (.int v :: S) G Q) : Runs C M k n pc P S G Q := by
  have hq := d.2
  subst hq
  exact Runs.pure d (fun p e s m args below meth c T locs L hw hx hown hZ hd hP hsz _ X => ⟨L, hP, hsz, fun t r => X.ldcInt hx hown (mvT hZ (hw _ w)) (g := mkF m pc L S) rfl hd t r⟩) h
theorem Runs.ldc2 {i : Nat} {v : Int64} (d : DAt M pc (.ldc2_w i) 3 q) (w : Jvm.Cond.constantLong M.1.cls i v ∈ tables_1) (h : Runs C M k n q P (.long v :: S) G Q) : Runs C M k n pc P S G Q := by
  have hq := d.2
  subst hq
  exact Runs.pure d (fun p e s m args below meth c T locs L hw hx hown hZ hd hP hsz _ X => ⟨L, hP, hsz, fun t r => X.ldc2Long hx hown (mvT hZ (hw _ w)) (g := mkF m pc L S) rfl hd t r⟩) h
theorem Runs.iadd {x y : Int32} (d : DAt M pc .iadd 1 q) (h : Runs C M k n q P (.int (x + y) :: S) G Q) : Runs C M k n pc P (.int y :: .int x :: S) G Q :=
  Runs.stk d (fun p e s m args below meth c T locs L hx hd hP X t r => XS.iadd (g := mkF m pc L (.int y :: .int x :: S)) X.here hx rfl hd rfl r) h
theorem Runs.isub {x y : Int32} (d : DAt M pc .isub 1 q) (h : Runs C M k n q P (.int (x - y) :: S) G Q) : Runs C M k n pc P (.int y :: .int x :: S) G Q :=
  Runs.stk d (fun p e s m args below meth c T locs L hx hd hP X t r => XS.isub (g := mkF m pc L (.int y :: .int x :: S)) X.here hx rfl hd rfl r) h
theorem Runs.imul {x y : Int32} (d : DAt M pc .imul 1 q) (h : Runs C M k n q P (.int (x * y) :: S) G Q) : Runs C M k n pc P (.int y :: .int x :: S) G Q :=
  Runs.stk d (fun p e s m args below meth c T locs L hx hd hP X t r => XS.imul (g := mkF m pc L (.int y :: .int x :: S)) X.here hx rfl hd rfl r) h
theorem Runs.iand {x y : Int32} (d : DAt M pc .iand 1 q) (h : Runs C M k n q P (.int (x &&& y) :: S) G Q) : Runs C M k n pc P (.int y :: .int x :: S) G Q :=
  Runs.stk d (fun p e s m args below meth c T locs L hx hd hP X t r => XS.iand (g := mkF m pc L (.int y :: .int x :: S)) X.here hx rfl hd rfl r) h
theorem Runs.ior {x y : Int32} (d : DAt M pc .ior 1 q) (h : Runs C M k n q P (.int (x ||| y) :: S) G Q) : Runs C M k n pc P (.int y :: .int x :: S) G Q :=
  Runs.stk d (fun p e s m args below meth c T locs L hx hd hP X t r => XS.ior (g := mkF m pc L (.int y :: .int x :: S)) X.here hx rfl hd rfl r) h
theorem Runs.ixor {x y : Int32} (d : DAt M pc .ixor 1 q) (h : Runs C M k n q P (.int (x ^^^ y) :: S) G Q) : Runs C M k n pc P (.int y :: .int x :: S) G Q :=
  Runs.stk d (fun p e s m args below meth c T locs L hx hd hP X t r => XS.ixor (g := mkF m pc L (.int y :: .int x :: S)) X.here hx rfl hd rfl r) h
theorem Runs.ladd {x y : Int64} (d : DAt M pc .ladd 1 q) (h : Runs C M k n q P (.long (x + y) :: S) G Q) : Runs C M k n pc P (.long y :: .long x :: S) G Q :=
  Runs.stk d (fun p e s m args below meth c T locs L hx hd hP X t r => XS.ladd (g := mkF m pc L (.long y :: .long x :: S)) X.here hx rfl hd rfl r) h
theorem Runs.lsub {x y : Int64} (d : DAt M pc .lsub 1 q) (h : Runs C M k n q P (.long (x - y) :: S) G Q) : Runs C M k n pc P (.long y :: .long x :: S) G Q :=
  Runs.stk d (fun p e s m args below meth c T locs L hx hd hP X t r => XS.lsub (g := mkF m pc L (.long y :: .long x :: S)) X.here hx rfl hd rfl r) h
theorem Runs.lmul {x y : Int64} (d : DAt M pc .lmul 1 q) (h : Runs C M k n q P (.long (x * y) :: S) G Q) : Runs C M k n pc P (.long y :: .long x :: S) G Q :=
  Runs.stk d (fun p e s m args below meth c T locs L hx hd hP X t r => XS.lmul (g := mkF m pc L (.long y :: .long x :: S)) X.here hx rfl hd rfl r) h
theorem Runs.land {x y : Int64} (d : DAt M pc .land 1 q) (h : Runs C M k n q P (.long (x &&& y) :: S) G Q) : Runs C M k n pc P (.long y :: .long x :: S) G Q :=
  Runs.stk d (fun p e s m args below meth c T locs L hx hd hP X t r => XS.land (g := mkF m pc L (.long y :: .long x :: S)) X.here hx rfl hd rfl r) h
theorem Runs.lor {x y : Int64} (d : DAt M pc .lor 1 q) (h : Runs C M k n q P (.long (x ||| y) :: S) G Q) : Runs C M k n pc P (.long y :: .long x :: S) G Q :=
  Runs.stk d (fun p e s m args below meth c T locs L hx hd hP X t r => XS.lor (g := mkF m pc L (.long y :: .long x :: S)) X.here hx rfl hd rfl r) h
theorem Runs.lxor {x y : Int64} (d : DAt M pc .lxor 1 q) (h : Runs C M k n q P (.long (x ^^^ y) :: S) G Q) : Runs C M k n pc P (.long y :: .long x :: S) G Q :=
  Runs.stk d (fun p e s m args below meth c T locs L hx hd hP X t r => XS.lxor (g := mkF m pc L (.long y :: .long x :: S)) X.here hx rfl hd rfl r) h
theorem Runs.ishl {x : Int32} {y : Int32} (d : DAt M pc .ishl 1 q) (h : Runs C M k n q P (.int (x <<< (y &&& 31)) :: S) G Q) : Runs C M k n pc P (.int y :: .int x :: S) G Q :=
  Runs.stk d (fun p e s m args below meth c T locs L hx hd hP X t r => XS.ishl (g := mkF m pc L (.int y :: .int x :: S)) X.here hx rfl hd rfl r) h
theorem Runs.ishr {x : Int32} {y : Int32} (d : DAt M pc .ishr 1 q) (h : Runs C M k n q P (.int (x >>> (y &&& 31)) :: S) G Q) : Runs C M k n pc P (.int y :: .int x :: S) G Q :=
  Runs.stk d (fun p e s m args below meth c T locs L hx hd hP X t r => XS.ishr (g := mkF m pc L (.int y :: .int x :: S)) X.here hx rfl hd rfl r) h
theorem Runs.iushr {x : Int32} {y : Int32} (d : DAt M pc .iushr 1 q) (h : Runs C M k n q P (.int ((x.toUInt32 >>> (y &&& 31).toUInt32).toInt32) :: S) G Q) : Runs C M k n pc P (.int y :: .int x :: S) G Q :=
  Runs.stk d (fun p e s m args below meth c T locs L hx hd hP X t r => XS.iushr (g := mkF m pc L (.int y :: .int x :: S)) X.here hx rfl hd rfl r) h
theorem Runs.lshl {x : Int64} {y : Int32} (d : DAt M pc .lshl 1 q) (h : Runs C M k n q P (.long (x <<< (y &&& 0x3f).toInt64) :: S) G Q) : Runs C M k n pc P (.int y :: .long x :: S) G Q :=
  Runs.stk d (fun p e s m args below meth c T locs L hx hd hP X t r => XS.lshl (g := mkF m pc L (.int y :: .long x :: S)) X.here hx rfl hd rfl r) h
theorem Runs.lshr {x : Int64} {y : Int32} (d : DAt M pc .lshr 1 q) (h : Runs C M k n q P (.long (x >>> (y &&& 0x3f).toInt64) :: S) G Q) : Runs C M k n pc P (.int y :: .long x :: S) G Q :=
  Runs.stk d (fun p e s m args below meth c T locs L hx hd hP X t r => XS.lshr (g := mkF m pc L (.int y :: .long x :: S)) X.here hx rfl hd rfl r) h
theorem Runs.lushr {x : Int64} {y : Int32} (d : DAt M pc .lushr 1 q) (h : Runs C M k n q P (.long ((x.toUInt64 >>> (y &&& 0x3f).toInt64.toUInt64).toInt64) :: S) G Q) : Runs C M k n pc P (.int y :: .long x :: S) G Q :=
  Runs.stk d (fun p e s m args below meth c T locs L hx hd hP X t r => XS.lushr (g := mkF m pc L (.int y :: .long x :: S)) X.here hx rfl hd rfl r) h
theorem Runs.ineg {x : Int32} (d : DAt M pc .ineg 1 q) (h : Runs C M k n q P (.int (-x) :: S) G Q) : Runs C M k n pc P (.int x :: S) G Q :=
  Runs.stk d (fun p e s m args below meth c T locs L hx hd hP X t r => XS.ineg (g := mkF m pc L (.int x :: S)) X.here hx rfl hd rfl r) h
theorem Runs.lneg {x : Int64} (d : DAt M pc .lneg 1 q) (h : Runs C M k n q P (.long (-x) :: S) G Q) : Runs C M k n pc P (.long x :: S) G Q :=
  Runs.stk d (fun p e s m args below meth c T locs L hx hd hP X t r => XS.lneg (g := mkF m pc L (.long x :: S)) X.here hx rfl hd rfl r) h
theorem Runs.i2l {x : Int32} (d : DAt M pc .i2l 1 q) (h : Runs C M k n q P (.long x.toInt64 :: S) G Q) : Runs C M k n pc P (.int x :: S) G Q :=
  Runs.stk d (fun p e s m args below meth c T locs L hx hd hP X t r => XS.i2l (g := mkF m pc L (.int x :: S)) X.here hx rfl hd rfl r) h
theorem Runs.l2i {x : Int64} (d : DAt M pc .l2i 1 q) (h : Runs C M k n q P (.int x.toInt32 :: S) G Q) : Runs C M k n pc P (.long x :: S) G Q :=
  Runs.stk d (fun p e s m args below meth c T locs L hx hd hP X t r => XS.l2i (g := mkF m pc L (.long x :: S)) X.here hx rfl hd rfl r) h
theorem Runs.lcmp {x y : Int64} (d : DAt M pc .lcmp 1 q) (h : Runs C M k n q P (.int (lcmpW x y) :: S) G Q) : Runs C M k n pc P (.long y :: .long x :: S) G Q :=
  Runs.stk d (fun p e s m args below meth c T locs L hx hd hP X t r => XS.lcmp (g := mkF m pc L (.long y :: .long x :: S)) X.here hx rfl hd rfl r) h
theorem Runs.idiv {x y : Int32} (d : DAt M pc .idiv 1 q) (hy : y ≠ 0) (h : Runs C M k n q P (.int (x / y) :: S) G Q) : Runs C M k n pc P (.int y :: .int x :: S) G Q :=
  Runs.stk d (fun p e s m args below meth c T locs L hx hd hP X t r => XS.idiv (g := mkF m pc L (.int y :: .int x :: S)) X.here hx rfl hd rfl hy r) h
theorem Runs.irem {x y : Int32} (d : DAt M pc .irem 1 q) (hy : y ≠ 0) (h : Runs C M k n q P (.int (x % y) :: S) G Q) : Runs C M k n pc P (.int y :: .int x :: S) G Q :=
  Runs.stk d (fun p e s m args below meth c T locs L hx hd hP X t r => iremM (g := mkF m pc L (.int y :: .int x :: S)) X hx rfl hd rfl hy r) h
theorem Runs.dup {x : Value} (d : DAt M pc .dup 1 q) (hc : x.category = 1) (h : Runs C M k n q P (x :: x :: S) G Q) : Runs C M k n pc P (x :: S) G Q :=
  Runs.stk d (fun p e s m args below meth c T locs L hx hd hP X t r => XS.dup (g := mkF m pc L (x :: S)) X.here hx rfl hd rfl hc r) h
theorem Runs.dup2 {x y : Value} (d : DAt M pc .dup2 1 q) (hc : x.category = 1) (hc' : y.category = 1) (h : Runs C M k n q P (x :: y :: x :: y :: S) G Q) : Runs C M k n pc P (x :: y :: S) G Q :=
  Runs.stk d (fun p e s m args below meth c T locs L hx hd hP X t r => Jvm.Free.XT.dup2 (g := mkF m pc L (x :: y :: S)) X.here hx rfl hd rfl hc hc' r) h
theorem Runs.pop {x : Value} (d : DAt M pc .pop 1 q) (hc : x.category = 1) (h : Runs C M k n q P S G Q) : Runs C M k n pc P (x :: S) G Q :=
  Runs.stk d (fun p e s m args below meth c T locs L hx hd hP X t r => XS.pop (g := mkF m pc L (x :: S)) X.here hx rfl hd rfl hc r) h
theorem Runs.goto {o : Int} {pc' : Nat} (d : DAt M pc (.goto o) 3 q) (ho : 0 ≤ (pc : Int) + o ∧ ((pc : Int) + o).toNat = pc') (h : Runs C M k n pc' P S G Q) : Runs C M k n pc P S G Q :=
  Runs.pure d (fun p e s m args below meth c T locs L hw hx hown hZ hd hP hsz _ X => ⟨L, hP, hsz, fun t r => XS.goto (g := mkF m pc L S) X.here hx rfl (pc0 := pc) rfl hd ho.1 ho.2 r⟩) h
theorem Runs.ifY {cd : ClassFile.Cond} {x : Int32} {o : Int} {pc' : Nat} (d : DAt M pc (.ifCond cd o) 3 q) (hc : if_icmp.holds cd x 0 = true) (ho : 0 ≤ (pc : Int) + o ∧ ((pc : Int) + o).toNat = pc') (h : Runs C M k n pc' P S G Q) : Runs C M k n pc P (.int x :: S) G Q :=
  Runs.pure d (fun p e s m args below meth c T locs L hw hx hown hZ hd hP hsz _ X => ⟨L, hP, hsz, fun t r => XS.ifYes (g := mkF m pc L (.int x :: S)) X.here hx rfl (pc0 := pc) rfl hd rfl ((if0 _ _).trans hc) ho.1 ho.2 r⟩) h
theorem Runs.ifN {cd : ClassFile.Cond} {x : Int32} {o : Int} (d : DAt M pc (.ifCond cd o) 3 q) (hc : if_icmp.holds cd x 0 = false) (h : Runs C M k n q P S G Q) : Runs C M k n pc P (.int x :: S) G Q :=
  Runs.stk d (fun p e s m args below meth c T locs L hx hd hP X t r => XS.ifNo (g := mkF m pc L (.int x :: S)) X.here hx rfl hd rfl ((if0 _ _).trans hc) r) h
theorem Runs.icY {cd : ClassFile.Cond} {x y : Int32} {o : Int} {pc' : Nat} (d : DAt M pc (.if_icmp cd o) 3 q) (hc : if_icmp.holds cd x y = true) (ho : 0 ≤ (pc : Int) + o ∧ ((pc : Int) + o).toNat = pc') (h : Runs C M k n pc' P S G Q) : Runs C M k n pc P (.int y :: .int x :: S) G Q :=
  Runs.pure d (fun p e s m args below meth c T locs L hw hx hown hZ hd hP hsz _ X => ⟨L, hP, hsz, fun t r => XS.icmpYes (g := mkF m pc L (.int y :: .int x :: S)) X.here hx rfl (pc0 := pc) rfl hd rfl hc ho.1 ho.2 r⟩) h
theorem Runs.icN {cd : ClassFile.Cond} {x y : Int32} {o : Int} (d : DAt M pc (.if_icmp cd o) 3 q) (hc : if_icmp.holds cd x y = false) (h : Runs C M k n q P S G Q) : Runs C M k n pc P (.int y :: .int x :: S) G Q :=
  Runs.stk d (fun p e s m args below meth c T locs L hx hd hP X t r => XS.icmpNo (g := mkF m pc L (.int y :: .int x :: S)) X.here hx rfl hd rfl hc r) h
theorem Runs.tswI {dflt low high : Int} {offs : Array Int} {len : Nat} {o : Int} {pc' : Nat} {i : Int32} (d : DAt M pc (.tableswitch dflt low high offs) len q) (hin : ¬ (i.toInt < low ∨ i.toInt > high)) (hoff : offs[(i.toInt - low).toNat]? = some o) (ho : 0 ≤ (pc : Int) + o ∧ ((pc : Int) + o).toNat = pc') (h : Runs C M k n pc' P S G Q) : Runs C M k n pc P (.int i :: S) G Q :=
  Runs.pure d (fun p e s m args below meth c T locs L hw hx hown hZ hd hP hsz _ X => ⟨L, hP, hsz, fun t r => XS.tswIn (g := mkF m pc L (.int i :: S)) X.here hx rfl (pc0 := pc) rfl hd rfl hin hoff ho.1 ho.2 r⟩) h
theorem Runs.tswO {dflt low high : Int} {offs : Array Int} {len : Nat} {pc' : Nat} {i : Int32} (d : DAt M pc (.tableswitch dflt low high offs) len q) (hout : i.toInt < low ∨ i.toInt > high) (ho : 0 ≤ (pc : Int) + dflt ∧ ((pc : Int) + dflt).toNat = pc') (h : Runs C M k n pc' P S G Q) : Runs C M k n pc P (.int i :: S) G Q :=
  Runs.pure d (fun p e s m args below meth c T locs L hw hx hown hZ hd hP hsz _ X => ⟨L, hP, hsz, fun t r => XS.tswOut (g := mkF m pc L (.int i :: S)) X.here hx rfl (pc0 := pc) rfl hd rfl hout ho.1 ho.2 r⟩) h
theorem Runs.istoreN {j : Fin 4} {x : Int32} (d : DAt M pc (.istore_n j) 1 q) (hi : j.val < M.2.2.1) (hP' : ps1 P j.val (.int x) = P') (h : Runs C M k n q P' S G Q) : Runs C M k n pc P (.int x :: S) G Q := by
  have hq := d.2
  subst hq hP'
  refine Runs.pure d (fun p e s m args below meth c T locs L hw hx hown hZ hd hP hsz _ X => ?_) h
  obtain ⟨L', e1, e2, e3⟩ := hP.store1 (i := j.val) (v := .int x) (by omega) rfl
  exact ⟨L', e3, e2.trans hsz, fun t r => XS.istoreN (g := mkF m pc L (.int x :: S)) X.here hx rfl hd rfl e1 r⟩
theorem Runs.istore {j : Nat} {x : Int32} (d : DAt M pc (.istore j) 2 q) (hi : j < M.2.2.1) (hP' : ps1 P j (.int x) = P') (h : Runs C M k n q P' S G Q) : Runs C M k n pc P (.int x :: S) G Q := by
  have hq := d.2
  subst hq hP'
  refine Runs.pure d (fun p e s m args below meth c T locs L hw hx hown hZ hd hP hsz _ X => ?_) h
  obtain ⟨L', e1, e2, e3⟩ := hP.store1 (i := j) (v := .int x) (by omega) rfl
  exact ⟨L', e3, e2.trans hsz, fun t r => XS.istore (g := mkF m pc L (.int x :: S)) X.here hx rfl hd rfl e1 r⟩
theorem Runs.astoreN {j : Fin 4} {x : Nat} (d : DAt M pc (.astore_n j) 1 q) (hi : j.val < M.2.2.1) (hP' : ps1 P j.val (.ref x) = P') (h : Runs C M k n q P' S G Q) : Runs C M k n pc P (.ref x :: S) G Q := by
  have hq := d.2
  subst hq hP'
  refine Runs.pure d (fun p e s m args below meth c T locs L hw hx hown hZ hd hP hsz _ X => ?_) h
  obtain ⟨L', e1, e2, e3⟩ := hP.store1 (i := j.val) (v := .ref x) (by omega) rfl
  exact ⟨L', e3, e2.trans hsz, fun t r => XS.astoreN (g := mkF m pc L (.ref x :: S)) X.here hx rfl hd rfl rfl e1 r⟩
theorem Runs.astore {j : Nat} {x : Nat} (d : DAt M pc (.astore j) 2 q) (hi : j < M.2.2.1) (hP' : ps1 P j (.ref x) = P') (h : Runs C M k n q P' S G Q) : Runs C M k n pc P (.ref x :: S) G Q := by
  have hq := d.2
  subst hq hP'
  refine Runs.pure d (fun p e s m args below meth c T locs L hw hx hown hZ hd hP hsz _ X => ?_) h
  obtain ⟨L', e1, e2, e3⟩ := hP.store1 (i := j) (v := .ref x) (by omega) rfl
  exact ⟨L', e3, e2.trans hsz, fun t r => XS.astore (g := mkF m pc L (.ref x :: S)) X.here hx rfl hd rfl rfl e1 r⟩
theorem Runs.lstoreN {j : Fin 4} {x : Int64} (d : DAt M pc (.lstore_n j) 1 q) (hi : j.val + 1 < M.2.2.1) (hP' : ps2 P j.val (.long x) = P') (h : Runs C M k n q P' S G Q) : Runs C M k n pc P (.long x :: S) G Q := by
  have hq := d.2
  subst hq hP'
  refine Runs.pure d (fun p e s m args below meth c T locs L hw hx hown hZ hd hP hsz _ X => ?_) h
  obtain ⟨L', e1, e2, e3⟩ := hP.store2 (i := j.val) (v := .long x) (by omega) rfl
  exact ⟨L', e3, e2.trans hsz, fun t r => XS.lstoreN (g := mkF m pc L (.long x :: S)) X.here hx rfl hd rfl e1 r⟩
theorem Runs.lstore {j : Nat} {x : Int64} (d : DAt M pc (.lstore j) 2 q) (hi : j + 1 < M.2.2.1) (hP' : ps2 P j (.long x) = P') (h : Runs C M k n q P' S G Q) : Runs C M k n pc P (.long x :: S) G Q := by
  have hq := d.2
  subst hq hP'
  refine Runs.pure d (fun p e s m args below meth c T locs L hw hx hown hZ hd hP hsz _ X => ?_) h
  obtain ⟨L', e1, e2, e3⟩ := hP.store2 (i := j) (v := .long x) (by omega) rfl
  exact ⟨L', e3, e2.trans hsz, fun t r => XS.lstore (g := mkF m pc L (.long x :: S)) X.here hx rfl hd rfl e1 r⟩
theorem Runs.iinc {j : Nat} {cst : Int} {x v : Int32} (d : DAt M pc (.iinc j cst) 3 q) (hv : Int32.ofInt cst = v) (hl : pget P j = vi x) (hi : j < M.2.2.1) (hP' : ps1 P j (.int (x + v)) = P') (h : Runs C M k n q P' S G Q) : Runs C M k n pc P S G Q := by
  have hq := d.2
  subst hq hP' hv
  refine Runs.pure d (fun p e s m args below meth c T locs L hw hx hown hZ hd hP hsz _ X => ?_) h
  obtain ⟨L', e1, e2, e3⟩ := hP.store1 (i := j) (v := .int (x + Int32.ofInt cst)) (by omega) rfl
  exact ⟨L', e3, e2.trans hsz, fun t r => XS.iinc (g := mkF m pc L S) X.here hx rfl hd (hP.1 _ _ hl) e1 r⟩
/-- less is known of the locals -/
def psub : Pat → Pat → Prop
  | [], _ => True
  | none :: l, _ :: l' => psub l l'
  | some s :: l, y :: l' => y = some s ∧ psub l l'
  | none :: l, [] => psub l []
  | some _ :: _, [] => False
theorem psub_get : ∀ (P P' : Pat), psub P P' → ∀ i s, pget P i = some s → pget P' i = some s
  | [], _, _, i, s, h => by simp [pget] at h
  | none :: l, _ :: l', H, 0, s, h => by simp [pget] at h
  | none :: l, _ :: l', H, i + 1, s, h => psub_get l l' H i s h
  | some x :: l, y :: l', H, 0, s, h => by rw [show y = some x from H.1]; exact h
  | some x :: l, y :: l', H, i + 1, s, h => psub_get l l' H.2 i s h
  | none :: l, [], H, 0, s, h => by simp [pget] at h
  | none :: l, [], H, i + 1, s, h => by have := psub_get l [] H i s h; simp [pget] at this
  | some _ :: _, [], H, _, _, _ => H.elim
theorem Runs.weak (hP : psub P' P) (h : Runs C M k n pc P' S G Q) : Runs C M k n pc P S G Q := by
  intro hw p e s m args below meth c T locs L hx hby hml hret hnm hown hZ hf
  exact h hw p e s m args below meth c T locs L hx hby hml hret hnm hown hZ ⟨fun i s hi => hf.1 i s (psub_get _ _ hP i s hi), hf.2⟩
theorem Runs.swap {top : Nat} {x y : Nat × Nat × Rec} {H : List (Nat × Nat × Rec)} (h : Runs C M k n pc P S (top, y :: x :: H) Q) : Runs C M k n pc P S (top, x :: y :: H) Q := by
  intro hw p e s m args below meth c T locs L hx hby hml hret hnm hown hZ hf hsz X hR hF
  exact h hw p e s m args below meth c T locs L hx hby hml hret hnm hown hZ hf hsz X hR.swap hF
end Rules
/- the steps that touch the heap -/
section Made
variable {p : Program} {l : Launch} {e : Env} {R : Room} {s : State} {m : MethodId} {args : Array Value} {below : List Frame} {meth : Method} {c : Code} {T : State} {locs : List Loc} {cells slots : Nat} {Z : State} {a0 : Array Value}
theorem ext_push (h : Heap) (x : Cell) : Ext h (h.push x) := ⟨by simp, fun a c q => by rw [Array.getElem?_push_lt (Array.getElem?_eq_some_iff.mp q).1]; exact (Array.getElem?_eq_getElem _).symm.trans q⟩
/-- 'new', with the heap's size behind it -/
theorem new1 (X : Stand p l e R s m args below meth c T locs cells slots) (hx : p.tables.exec = Jvm.exec) (hZ : Z.Warmed39 s.vm) {own C : String} {index n : Nat} (hown : s.vm.findClass own = some m.cls) (w : (Jvm.Cond.classLink own index C).before a0 Z = true) (wi : (Jvm.Cond.instantiable C n).before a0 Z = true) (wz : (Jvm.Cond.initialized C).before a0 Z = true)
    {g : JFrame} (hg : g.method = m) (hd : decode c.code g.pc = .ok (.new index, 3)) (hc : cells + 1 ≤ R.cells) (hl : slots + n ≤ R.slots) :
    ∃ T', Stand p l e R s m args below meth c T' locs (cells + 1) (slots + n) ∧ T'.heap.size = T.heap.size + 1 ∧ Ext T.heap T'.heap ∧ Exa Z T'.heap T.heap.size C ∧ (∀ {O nm d : String} {ty : FieldType}, Laid Z a0 C O nm d → parseFieldDescriptor d = some ty → Fld Z T'.heap T.heap.size O nm d (defaultValue ty)) ∧
      ∀ target, Steps p.tables e below (T'.setTop { g with pc := g.pc + 3, stack := .ref T.heap.size :: g.stack }) target → Steps p.tables e below (T.setTop g) target := by
  obtain ⟨vm', cC, kC, h1, h2, h3, h4, X', st⟩ := X.newCold hx hown (mv hZ w) (mv hZ wi) (mv hZ wz) hg hd hc hl
  rw [hZ.alike.findClass] at h1
  obtain ⟨kZ, z1, -⟩ := Vm.findClass_spec h1
  obtain ⟨k', z2, z3⟩ := hZ.alike.2.2 _ _ z1
  have ek : kC.instanceTypes = kZ.instanceTypes := by rw [Option.some.inj (h2.symm.trans z2), z3]
  obtain ⟨cell, hcell⟩ : ∃ cell : Cell, cell = { cls := cC, slots := kC.instanceTypes.map defaultValue, vm := .none } := ⟨_, rfl⟩
  rw [← hcell] at X' st
  have hp : ((T.setVm vm').pushCell cell).heap = T.heap.push cell := rfl
  have at' : (T.heap.push cell)[T.heap.size]? = some cell := by simp
  refine ⟨_, X', by rw [hp]; simp, by rw [hp]; exact ext_push _ _, ?_, fun {O nm d ty} L ht => ?_, st⟩
  · rw [hp]; exact ⟨cell, kZ, at', by rw [hcell]; exact h1, by rw [hcell]; exact z1, by rw [hcell]; rfl, fun _ => by rw [hcell]; simp [ek]⟩
  · rw [hp]
    obtain ⟨c1, k1, cf, kf, i, f, a1, a2, a3, a4, a5, a6, -⟩ := L.spec
    cases h1.symm.trans a1
    cases z1.symm.trans a2
    refine ⟨cell, cf, kf, i, f, at', a3, a4, by rw [hcell]; simp, by rw [hcell]; rfl, by rw [hcell]; exact a5, ?_⟩
    rw [hcell]; simp [ek, a6, (State.fieldFound?_type a3 ht).2]
theorem newArr1 (X : Stand p l e R s m args below meth c T locs cells slots) (hx : p.tables.exec = Jvm.exec) (hZ : Z.Warmed39 s.vm) {aty : ArrayType} (w : (Jvm.Cond.arrayClass (newarray.typeOf aty)).before a0 Z = true) {g : JFrame} (hg : g.method = m) (hd : decode c.code g.pc = .ok (.newarray aty, 2)) {n : Int32} {rest : List Value} (hs : g.stack = .int n :: rest)
    (hn : ¬ n < 0) (hb : n.toNatClampNeg * 8 ≤ 536870912) (hc : cells + 1 ≤ R.cells) (hl : slots + n.toNatClampNeg ≤ R.slots) :
    ∃ T' cA, Stand p l e R s m args below meth c T' locs (cells + 1) (slots + n.toNatClampNeg) ∧ T'.heap.size = T.heap.size + 1 ∧ Ext T.heap T'.heap ∧ Arr Z T'.heap T.heap.size (newA cA (newarray.typeOf aty) n) (newarray.typeOf aty) ∧
      ∀ target, Steps p.tables e below (T'.setTop { g with pc := g.pc + 2, stack := .ref T.heap.size :: rest }) target → Steps p.tables e below (T.setTop g) target := by
  have hcb : componentBytes (newarray.typeOf aty) ≤ 8 := by cases aty <;> decide
  obtain ⟨cA, kA, comp, h1, h2, h3, X', st⟩ := X.newarrayPrim hx (mvA hZ w) hg hd hs hn (Nat.le_trans (Nat.mul_le_mul_left _ hcb) hb) hc hl
  rw [hZ.alike.findClass] at h1
  obtain ⟨kZ, z1, -⟩ := Vm.findClass_spec h1
  obtain ⟨k', z2, z3⟩ := hZ.alike.2.2 _ _ z1
  have ek : kA.kind = kZ.kind := by rw [Option.some.inj (h2.symm.trans z2), z3]
  have hp : (T.pushCell (newA cA (newarray.typeOf aty) n)).heap = T.heap.push (newA cA (newarray.typeOf aty) n) := rfl
  refine ⟨T.pushCell (newA cA (newarray.typeOf aty) n), cA, X', by rw [hp]; simp, by rw [hp]; exact ext_push _ _, ?_, st⟩
  rw [hp]
  exact ⟨by simp, ⟨by simp [newA], kZ, z1, comp, by rw [← ek]; exact h3⟩, by simp [newA]⟩
end Made
section Heap
variable {C : Ctx} {M : Bdy} {k n pc q : Nat} {P P' : Pat} {S S' : List Value} {G : AH} {Q : Option Value → AH → Prop} {top : Nat} {a : Nat} {qq j idx : Nat} {ob : Rec} {H : List (Nat × Nat × Rec)} {nm ds : String}
theorem Runs.getI (d : DAt M pc (.getfield idx) 3 q) (w : Jvm.Cond.fieldLink M.1.cls idx K.1 nm ds ∈ tables_1) (hk : K.2.1[j]? = some (nm, ds)) (h : Runs C M k n q P (.int (gI ob j) :: S) (top, (a, qq, ob) :: H) Q) : Runs C M k n pc P (.ref a :: S) (top, (a, qq, ob) :: H) Q := by
  intro hw p e s m args below meth c T locs L hx hby hml hret hnm hown hZ hf hsz X hR hF
  have hq := d.2
  subst hq
  obtain ⟨T1, X1, e1, st1⟩ := getF X hx hZ hown (host := "") (Or.inl (hw _ w)) Via.refl rfl (hR.objs.2.2.2.1 j _ hk) (g := mkF m pc L (.ref a :: S)) rfl rfl (hb hby d.1)
  obtain ⟨T', locs', k', n', r, G', g1, g2, g3, g4, g5, g6, g7, g8⟩ := h hw p e s m args below meth c T1 locs L hx hby hml hret hnm hown hZ hf hsz X1 (by rw [e1]; exact hR) hF
  exact ⟨T', locs', k', n', r, G', g1, g2, g3, g4, g5, g6, g7, fun fs hr => st1 _ (g8 fs hr)⟩
theorem Runs.getA {ty : FieldType} {len : Int32} (d : DAt M pc (.getfield idx) 3 q) (hk : K.2.2[j]? = some (nm, ty, len)) (w : Jvm.Cond.fieldLink M.1.cls idx K.1 nm (aD ty) ∈ tables_1) (hq : j < qq) (h : Runs C M k n q P (.ref (a + 1 + j) :: S) (top, (a, qq, ob) :: H) Q) : Runs C M k n pc P (.ref a :: S) (top, (a, qq, ob) :: H) Q := by
  intro hw p e s m args below meth c T locs L hx hby hml hret hnm hown hZ hf hsz X hR hF
  have hqq := d.2
  subst hqq
  obtain ⟨T1, X1, e1, st1⟩ := getF X hx hZ hown (host := "") (Or.inl (hw _ w)) Via.refl rfl (hR.objs.2.2.2.2.1 j _ hk hq).1 (g := mkF m pc L (.ref a :: S)) rfl rfl (hb hby d.1)
  obtain ⟨T', locs', k', n', r, G', g1, g2, g3, g4, g5, g6, g7, g8⟩ := h hw p e s m args below meth c T1 locs L hx hby hml hret hnm hown hZ hf hsz X1 (by rw [e1]; exact hR) hF
  exact ⟨T', locs', k', n', r, G', g1, g2, g3, g4, g5, g6, g7, fun fs hr => st1 _ (g8 fs hr)⟩
theorem lw_of {Z : State} {a0 : Array Value} {meth : Method} (hw : ∀ d ∈ tables_1, d.before a0 Z = true) {C O n d own : String} (h : Jvm.Cond.lays C O n d ∈ tables_1 ∨ Jvm.Cond.laysFinal C O n d ∈ tables_1) (hc : Jvm.Cond.lays C O n d ∈ tables_1 ∨ (own = O ∧ meth.name = "<init>")) : (Jvm.Cond.lays C O n d).before a0 Z = true ∨ ((Jvm.Cond.laysFinal C O n d).before a0 Z = true ∧ own = O ∧ meth.name = "<init>") := by
  rcases hc with hc | hc
  · exact Or.inl (hw _ hc)
  · exact h.imp (hw _) (fun u => ⟨hw _ u, hc⟩)
/-- a field that may be written here: not final, or in a constructor of its class -/
def Mine (M : Bdy) (nm ds : String) : Prop := Jvm.Cond.lays K.1 K.1 nm ds ∈ tables_1 ∨ (M.1.cls = K.1 ∧ M.1.name = "<init>")
theorem Runs.putI {x : Int32} (d : DAt M pc (.putfield idx) 3 q) (w : Jvm.Cond.fieldLink M.1.cls idx K.1 nm "I" ∈ tables_1) (hk : K.2.1[j]? = some (nm, "I")) (hm : Mine M nm "I") (h : Runs C M k n q P S (top, (a, qq, sI ob j x) :: H) Q) : Runs C M k n pc P (.int x :: .ref a :: S) (top, (a, qq, ob) :: H) Q := by
  intro hw p e s m args below meth c T locs L hx hby hml hret hnm hown hZ hf hsz X hR hF
  have hqq := d.2
  subst hqq
  obtain ⟨T1, h1, X1, e1, W1, st1⟩ := putF X hx hZ hown (host := "") (Or.inl (hw _ w)) Via.refl rfl (hR.objs.2.2.2.1 j _ hk) hR.objs.2.2.1 (lw_of hw ((All.mem kS (List.mem_of_getElem? hk)).1) (hm.imp id (fun u => ⟨u.1, hnm.trans u.2⟩))) (hw _ kI) (ty := .int) (by decide) rfl rfl (g := mkF m pc L (.int x :: .ref a :: S)) rfl rfl (hb hby d.1)
  obtain ⟨T', locs', k', n', r, G', g1, g2, g3, g4, g5, g6, g7, g8⟩ := h hw p e s m args below meth c T1 _ L hx hby hml hret hnm hown hZ hf hsz X1 (by rw [e1]; exact hR.putI hw hk W1) (Fr.snoc X1 hF hR.objs.1)
  exact ⟨T', locs', k', n', r, G', g1, g2, g3, g4, g5, g6, g7, fun fs hr => st1 _ (g8 fs hr)⟩
theorem Runs.putZ {x y : Int32} (d : DAt M pc (.putfield idx) 3 q) (w : Jvm.Cond.fieldLink M.1.cls idx K.1 nm "Z" ∈ tables_1) (hk : K.2.1[j]? = some (nm, "Z")) (hm : Mine M nm "Z") (hy : nar .boolean x = y) (h : Runs C M k n q P S (top, (a, qq, sI ob j y) :: H) Q) : Runs C M k n pc P (.int x :: .ref a :: S) (top, (a, qq, ob) :: H) Q := by
  subst hy
  intro hw p e s m args below meth c T locs L hx hby hml hret hnm hown hZ hf hsz X hR hF
  have hqq := d.2
  subst hqq
  obtain ⟨T1, h1, X1, e1, W1, st1⟩ := putFN X hx hZ hown (hw _ w) Via.refl rfl (hR.objs.2.2.2.1 j _ hk) hR.objs.2.2.1 (lw_of hw ((All.mem kS (List.mem_of_getElem? hk)).1) (hm.imp id (fun u => ⟨u.1, hnm.trans u.2⟩))) (hw _ kI) (ty := .boolean) (v' := .int (nar .boolean x)) (by decide) rfl (fits_nar_bool _) (g := mkF m pc L (.int x :: .ref a :: S)) rfl rfl (hb hby d.1)
  obtain ⟨T', locs', k', n', r, G', g1, g2, g3, g4, g5, g6, g7, g8⟩ := h hw p e s m args below meth c T1 _ L hx hby hml hret hnm hown hZ hf hsz X1 (by rw [e1]; exact hR.putI hw hk W1) (Fr.snoc X1 hF hR.objs.1)
  exact ⟨T', locs', k', n', r, G', g1, g2, g3, g4, g5, g6, g7, fun fs hr => st1 _ (g8 fs hr)⟩
theorem Runs.ialoadA {i len : Int32} (d : DAt M pc .iaload 1 q) (hk : K.2.2[j]? = some (nm, .int, len)) (hq : j < qq) (hi : ¬ i < 0 ∧ i < len) (h : Runs C M k n q P (.int (gA ob j i) :: S) (top, (a, qq, ob) :: H) Q) : Runs C M k n pc P (.int i :: .ref (a + 1 + j) :: S) (top, (a, qq, ob) :: H) Q := by
  have hqq := d.2
  subst hqq
  refine Runs.pure d (fun p e s m args below meth c T locs L hw hx hown hZ hd hP hsz hR X => ⟨L, hP, hsz, fun t r => ?_⟩) h
  obtain ⟨cl, A, Sz, V⟩ := (hR.objs.2.2.2.2.1 j _ hk hq).2
  exact X.iaload hx (j := i) (v := .int (gA ob j i)) A.1 (State.isArrayOf_alike hZ.alike A.2.1) A.2.2 (inb_of Sz hi) (V i hi.1 hi.2) (g := mkF m pc L (.int i :: .ref (a + 1 + j) :: S)) rfl rfl hd _ r
theorem Runs.baloadA {i len : Int32} (d : DAt M pc .baload 1 q) (hk : K.2.2[j]? = some (nm, .boolean, len)) (hq : j < qq) (hi : ¬ i < 0 ∧ i < len) (h : Runs C M k n q P (.int (gA ob j i) :: S) (top, (a, qq, ob) :: H) Q) : Runs C M k n pc P (.int i :: .ref (a + 1 + j) :: S) (top, (a, qq, ob) :: H) Q := by
  have hqq := d.2
  subst hqq
  refine Runs.pure d (fun p e s m args below meth c T locs L hw hx hown hZ hd hP hsz hR X => ⟨L, hP, hsz, fun t r => ?_⟩) h
  obtain ⟨cl, A, Sz, V⟩ := (hR.objs.2.2.2.2.1 j _ hk hq).2
  exact X.baloadBooleans hx (j := i) (v := .int (gA ob j i)) A.1 (State.isArrayOf_alike hZ.alike A.2.1) A.2.2 (inb_of Sz hi) (V i hi.1 hi.2) (g := mkF m pc L (.int i :: .ref (a + 1 + j) :: S)) rfl rfl hd _ r
theorem Runs.laloadA {i len : Int32} (d : DAt M pc .laload 1 q) (hk : K.2.2[j]? = some (nm, .long, len)) (hq : j < qq) (hi : ¬ i < 0 ∧ i < len) (h : Runs C M k n q P (.long (gJ ob j i) :: S) (top, (a, qq, ob) :: H) Q) : Runs C M k n pc P (.int i :: .ref (a + 1 + j) :: S) (top, (a, qq, ob) :: H) Q := by
  have hqq := d.2
  subst hqq
  refine Runs.pure d (fun p e s m args below meth c T locs L hw hx hown hZ hd hP hsz hR X => ⟨L, hP, hsz, fun t r => ?_⟩) h
  obtain ⟨cl, A, Sz, V⟩ := (hR.objs.2.2.2.2.1 j _ hk hq).2
  exact X.laload hx (j := i) (v := .long (gJ ob j i)) A.1 (State.isArrayOf_alike hZ.alike A.2.1) A.2.2 (inb_of Sz hi) (V i hi.1 hi.2) (g := mkF m pc L (.int i :: .ref (a + 1 + j) :: S)) rfl rfl hd _ r
theorem Runs.iastoreA {i x len : Int32} (d : DAt M pc .iastore 1 q) (hk : K.2.2[j]? = some (nm, .int, len)) (hq : j < qq) (hi : ¬ i < 0 ∧ i < len) (h : Runs C M k n q P S (top, (a, qq, sA ob j i x) :: H) Q) : Runs C M k n pc P (.int x :: .int i :: .ref (a + 1 + j) :: S) (top, (a, qq, ob) :: H) Q := by
  intro hw p e s m args below meth c T locs L hx hby hml hret hnm hown hZ hf hsz X hR hF
  have hqq := d.2
  subst hqq
  obtain ⟨cl, A, Sz, V⟩ := (hR.objs.2.2.2.2.1 j _ hk hq).2
  obtain ⟨T1, h1, X1, e1, W1, st1⟩ := stI X hx hZ rfl A (j := i) (x := x) (inb_of Sz hi) (g := mkF m pc L (.int x :: .int i :: .ref (a + 1 + j) :: S)) rfl rfl (hb hby d.1)
  obtain ⟨T', locs', k', n', r, G', g1, g2, g3, g4, g5, g6, g7, g8⟩ := h hw p e s m args below meth c T1 _ L hx hby hml hret hnm hown hZ hf hsz X1 (by rw [e1]; exact hR.putA hk hq (by simp) hi W1) (Fr.snoc X1 hF (by have := hR.objs.1; omega))
  exact ⟨T', locs', k', n', r, G', g1, g2, g3, g4, g5, g6, g7, fun fs hr => st1 _ (g8 fs hr)⟩
theorem Runs.bastoreA {i x len : Int32} (d : DAt M pc .bastore 1 q) (hk : K.2.2[j]? = some (nm, .boolean, len)) (hq : j < qq) (hi : ¬ i < 0 ∧ i < len) {y : Int32} (hy : nar .boolean x = y) (h : Runs C M k n q P S (top, (a, qq, sA ob j i y) :: H) Q) : Runs C M k n pc P (.int x :: .int i :: .ref (a + 1 + j) :: S) (top, (a, qq, ob) :: H) Q := by
  subst hy
  intro hw p e s m args below meth c T locs L hx hby hml hret hnm hown hZ hf hsz X hR hF
  have hqq := d.2
  subst hqq
  obtain ⟨cl, A, Sz, V⟩ := (hR.objs.2.2.2.2.1 j _ hk hq).2
  obtain ⟨T1, h1, X1, e1, W1, st1⟩ := stZ X hx hZ rfl A (j := i) (x := x) (inb_of Sz hi) (g := mkF m pc L (.int x :: .int i :: .ref (a + 1 + j) :: S)) rfl rfl (hb hby d.1)
  obtain ⟨T', locs', k', n', r, G', g1, g2, g3, g4, g5, g6, g7, g8⟩ := h hw p e s m args below meth c T1 _ L hx hby hml hret hnm hown hZ hf hsz X1 (by rw [e1]; exact hR.putA hk hq (by simp) hi W1) (Fr.snoc X1 hF (by have := hR.objs.1; omega))
  exact ⟨T', locs', k', n', r, G', g1, g2, g3, g4, g5, g6, g7, fun fs hr => st1 _ (g8 fs hr)⟩
theorem Runs.lastoreA {i len : Int32} {x : Int64} (d : DAt M pc .lastore 1 q) (hk : K.2.2[j]? = some (nm, .long, len)) (hq : j < qq) (hi : ¬ i < 0 ∧ i < len) (h : Runs C M k n q P S (top, (a, qq, sJ ob j i x) :: H) Q) : Runs C M k n pc P (.long x :: .int i :: .ref (a + 1 + j) :: S) (top, (a, qq, ob) :: H) Q := by
  intro hw p e s m args below meth c T locs L hx hby hml hret hnm hown hZ hf hsz X hR hF
  have hqq := d.2
  subst hqq
  obtain ⟨cl, A, Sz, V⟩ := (hR.objs.2.2.2.2.1 j _ hk hq).2
  obtain ⟨T1, h1, X1, e1, W1, st1⟩ := stJ X hx hZ rfl A (j := i) (x := x) (inb_of Sz hi) (g := mkF m pc L (.long x :: .int i :: .ref (a + 1 + j) :: S)) rfl rfl (hb hby d.1)
  obtain ⟨T', locs', k', n', r, G', g1, g2, g3, g4, g5, g6, g7, g8⟩ := h hw p e s m args below meth c T1 _ L hx hby hml hret hnm hown hZ hf hsz X1 (by rw [e1]; exact hR.putJ hk hq rfl hi W1) (Fr.snoc X1 hF (by have := hR.objs.1; omega))
  exact ⟨T', locs', k', n', r, G', g1, g2, g3, g4, g5, g6, g7, fun fs hr => st1 _ (g8 fs hr)⟩
/-- the script: an array that stood before the law began -/
def ScrF (C : Ctx) (sa : Nat) (z : Int32) (f : Int32 → Int32) : Prop := ∃ cl : Cell, Scr C.2.1 C.2.1.heap sa cl z ∧ f = atv cl
theorem Runs.lenS {sa : Nat} {z : Int32} {f : Int32 → Int32} (hs : ScrF C sa z f) (d : DAt M pc .arraylength 1 q) (h : Runs C M k n q P (.int z :: S) G Q) : Runs C M k n pc P (.ref sa :: S) G Q := by
  have hqq := d.2
  subst hqq
  refine Runs.pure d (fun p e s m args below meth c T locs L hw hx hown hZ hd hP hsz hR X => ⟨L, hP, hsz, fun t r => ?_⟩) h
  obtain ⟨cl, F, -⟩ := hs
  obtain ⟨A, Sz, N, V⟩ := F.ext hR.2.1.2
  exact X.arraylength hx A.1 (State.isArrayOf_alike hZ.alike A.2.1) (g := mkF m pc L (.ref sa :: S)) rfl rfl hd _ (by rw [len_of Sz N]; exact r)
theorem Runs.ialoadS {sa : Nat} {z i : Int32} {f : Int32 → Int32} (hs : ScrF C sa z f) (d : DAt M pc .iaload 1 q) (hi : ¬ i < 0 ∧ i < z) (h : Runs C M k n q P (.int (f i) :: S) G Q) : Runs C M k n pc P (.int i :: .ref sa :: S) G Q := by
  have hqq := d.2
  subst hqq
  refine Runs.pure d (fun p e s m args below meth c T locs L hw hx hown hZ hd hP hsz hR X => ⟨L, hP, hsz, fun t r => ?_⟩) h
  obtain ⟨cl, F, rfl⟩ := hs
  obtain ⟨A, Sz, N, V⟩ := F.ext hR.2.1.2
  exact X.iaload hx (j := i) (v := .int (atv cl i)) A.1 (State.isArrayOf_alike hZ.alike A.2.1) A.2.2 (inb_of Sz hi) (V i (inb_of Sz hi)) (g := mkF m pc L (.int i :: .ref sa :: S)) rfl rfl hd _ r
/- leaving -/
theorem Runs.retI {v : Int32} (d : DAt M pc .ireturn 1 q) (hret : M.2.2.2.1 = some .int) (hk : k ≤ M.2.2.2.2.cells ∧ n ≤ M.2.2.2.2.slots) (hQ : Q (some (.int v)) G) : Runs C M k n pc P (.int v :: S) G Q := by
  intro hw p e s m args below meth c T locs L hx hby hml hr0 hnm hown hZ hf hsz X hR hF
  exact ⟨T, locs, k, n, _, G, X, hk.1, hk.2, hR, hF, hQ, (fun u => by rw [hret] at u; cases u), fun fs hr => Jvm.RoadKit.retI X hx (hr0.trans hret) (hb hby d.1) hr⟩
theorem Runs.retZ {v : Int32} (d : DAt M pc .ireturn 1 q) (hret : M.2.2.2.1 = some .boolean) (hk : k ≤ M.2.2.2.2.cells ∧ n ≤ M.2.2.2.2.slots) {y : Int32} (hy : nar .boolean v = y) (hQ : Q (some (.int y)) G) : Runs C M k n pc P (.int v :: S) G Q := by
  subst hy
  intro hw p e s m args below meth c T locs L hx hby hml hr0 hnm hown hZ hf hsz X hR hF
  exact ⟨T, locs, k, n, _, G, X, hk.1, hk.2, hR, hF, hQ, (fun u => by rw [hret] at u; cases u), fun fs hr => retN X hx (t := .boolean) (hr0.trans hret) (by simp) (hb hby d.1) hr⟩
theorem Runs.retJ {v : Int64} (d : DAt M pc .lreturn 1 q) (hret : M.2.2.2.1 = some .long) (hk : k ≤ M.2.2.2.2.cells ∧ n ≤ M.2.2.2.2.slots) (hQ : Q (some (.long v)) G) : Runs C M k n pc P (.long v :: []) G Q := by
  intro hw p e s m args below meth c T locs L hx hby hml hr0 hnm hown hZ hf hsz X hR hF
  exact ⟨T, locs, k, n, _, G, X, hk.1, hk.2, hR, hF, hQ, (fun u => by rw [hret] at u; cases u), fun fs hr => X.lreturnOut hx (hr0.trans hret) (hb hby d.1) hr⟩
theorem Runs.retV (d : DAt M pc .return_ 1 q) (hret : M.2.2.2.1 = none) (hk : k ≤ M.2.2.2.2.cells ∧ n ≤ M.2.2.2.2.slots) (hQ : Q none G) : Runs C M k n pc P [] G Q := by
  intro hw p e s m args below meth c T locs L hx hby hml hr0 hnm hown hZ hf hsz X hR hF
  exact ⟨T, locs, k, n, _, G, X, hk.1, hk.2, hR, hF, hQ, (fun _ => rfl), fun fs hr => X.returnOut hx (hr0.trans hret) (hb hby d.1) hr⟩
/- a new object, and the arrays that its constructor makes -/
theorem Runs.newK (d : DAt M pc (.new idx) 3 q) (w : Jvm.Cond.classLink M.1.cls idx K.1 ∈ tables_1) (hc : k + 1 ≤ M.2.2.2.2.cells ∧ n + kN ≤ M.2.2.2.2.slots) {k' n' : Nat} (hk' : k + 1 = k') (hn' : n + kN = n') {H : List (Nat × Nat × Rec)} (hd : ∀ x ∈ H, x.1 + x.2.1 < top) (h : Runs C M k' n' q P (.ref top :: S) (top + 1, (top, 0, zrec) :: H) Q) : Runs C M k n pc P S (top, H) Q := by
  subst hk' hn'
  intro hw p e s m args below meth c T locs L hx hby hml hr0 hnm hown hZ hf hsz X hR hF
  have hqq := d.2
  subst hqq
  obtain ⟨T2, X2, s2, E2, A2, D2, st2⟩ := new1 X hx hZ hown (hw _ w) (hw _ kI) (hw _ kZ) (g := mkF m pc L S) rfl (hb hby d.1) hc.1 hc.2
  have hs : T.heap.size = top := hR.1
  rw [hs] at A2 D2 st2 s2
  have hR2 : Rep C.2.1 C.2.2.1 T2.heap (top + 1, (top, 0, zrec) :: H) := by
    refine ⟨s2, hR.2.1.ext E2, fun x hx' => ?_, ?_⟩
    · rcases List.mem_cons.mp hx' with rfl | hx'
      · refine ⟨?_, by simp, A2, fun k nd hk => ?_, fun k t hk hq => by simp at hq, fun k t hk hq => ?_⟩
        · have := hR.2.1.2.1; rw [hR.2.1.1] at this; simp only; omega
        · rcases (All.mem kS (List.mem_of_getElem? hk)).2 with e | e
          · have := D2 (laidS hw hk) (ty := .int) (by rw [e]; decide); exact this
          · have := D2 (laidS hw hk) (ty := .boolean) (by rw [e]; decide); exact this
        · have := D2 (laidA hw hk) (pfA hk); exact this
      · obtain ⟨p1, p2, p3⟩ := hR.2.2.1 x hx'
        exact ⟨p1, by simp only at p2 ⊢; omega, p3.ext E2⟩
    · exact List.pairwise_cons.mpr ⟨fun y hy => Or.inr (hd y hy), hR.2.2.2⟩
  obtain ⟨T', locs', k', n', r, G', g1, g2, g3, g4, g5, g6, g7, g8⟩ := h hw p e s m args below meth c T2 _ L hx hby hml hr0 hnm hown hZ hf hsz X2 hR2 hF
  exact ⟨T', locs', k', n', r, G', g1, g2, g3, g4, g5, g6, g7, fun fs hr => st2 _ (g8 fs hr)⟩
/-- newarray and the putfield behind it: the next array of an object that is being made -/
theorem Runs.newArr {aty : ArrayType} {ty : FieldType} {len : Int32} {q1 : Nat} (d : DAt M pc (.newarray aty) 2 q1) (d' : DAt M q1 (.putfield idx) 3 q) (hk : K.2.2[j]? = some (nm, ty, len)) (w : Jvm.Cond.fieldLink M.1.cls idx K.1 nm (aD ty) ∈ tables_1) (ht : newarray.typeOf aty = ty) (wa : Jvm.Cond.arrayClass ty ∈ tables_1) (hm : Mine M nm (aD ty))
    (htop : top = a + 1 + j) (hlen : ¬ len < 0 ∧ len.toNatClampNeg * 8 ≤ 536870912) (hc : k + 1 ≤ M.2.2.2.2.cells ∧ n + len.toNatClampNeg ≤ M.2.2.2.2.slots) (hz : (∀ i, ob.2.1 j i = 0) ∧ (∀ i, ob.2.2 j i = 0)) {j' top' k' n' : Nat} (hj' : j + 1 = j') (ht' : top + 1 = top') (hk' : k + 1 = k') (hn' : n + len.toNatClampNeg = n')
    (h : Runs C M k' n' q P S (top', (a, j', ob) :: H) Q) : Runs C M k n pc P (.int len :: .ref a :: S) (top, (a, j, ob) :: H) Q := by
  subst hj' ht' hk' hn'
  intro hw p e s m args below meth c T locs L hx hby hml hr0 hnm hown hZ hf hsz X hR hF
  have hqq := d.2
  have hqq' := d'.2
  subst hqq hqq' ht
  obtain ⟨T1, cA, X1, s1, E1, A1, st1⟩ := newArr1 X hx hZ (hw _ wa) (g := mkF m pc L (.int len :: .ref a :: S)) rfl (hb hby d.1) rfl hlen.1 hlen.2 hc.1 hc.2
  have hs : T.heap.size = top := hR.1
  rw [hs] at A1 st1 s1
  have O1 := hR.objs.2.2.ext E1
  obtain ⟨T2, h2, X2, e2, W2, st2⟩ := putF X1 hx hZ hown (host := "") (Or.inl (hw _ w)) Via.refl rfl (O1.2.2.2 j _ hk (Nat.le_refl _)) O1.1 (lw_of hw ((All.mem kA (List.mem_of_getElem? hk)).1) (hm.imp id (fun u => ⟨u.1, hnm.trans u.2⟩))) (hw _ kI) (ty := .array (newarray.typeOf aty)) (pfA hk) rfl rfl (g := mkF m (pc + 2) L (.ref top :: .ref a :: S)) rfl rfl (hb hby d'.1)
  have hts : (newarray.typeOf aty = .int ∨ newarray.typeOf aty = .boolean ∨ newarray.typeOf aty = .long) := (All.mem kA (List.mem_of_getElem? hk)).2.1
  have hA := arr_new A1 hts hz
  have hR2 : Rep C.2.1 C.2.2.1 T2.heap (top + 1, (a, j + 1, ob) :: H) := by rw [e2]; exact hR.addA hw E1 s1 htop hk hA W2
  obtain ⟨T', locs', k', n', r, G', g1, g2, g3, g4, g5, g6, g7, g8⟩ := h hw p e s m args below meth c T2 _ L hx hby hml hr0 hnm hown hZ hf hsz X2 hR2 (Fr.snoc X2 hF hR.objs.1)
  exact ⟨T', locs', k', n', r, G', g1, g2, g3, g4, g5, g6, g7, fun fs hr => st1 _ (st2 _ (g8 fs hr))⟩
theorem Runs.initO {W : Nat} (d : DAt M pc (.invokespecial idx) 3 q) (w1 : Jvm.Cond.methodLink M.1.cls idx Lib.objectInit ∈ tables_1) (w2 : Jvm.Cond.instanceMethod Lib.objectInit ∈ tables_1) (w3 : Jvm.Cond.code Lib.objectInit ⟨#[0xb1]⟩ 1 none ∈ tables_1) (hW : (S.map fun v => v.category).sum = W) (hc : 1 ≤ M.2.2.2.2.frames ∧ W + 12 ≤ M.2.2.2.2.locals) (h : Runs C M k n q P S G Q) : Runs C M k n pc P (.ref a :: S) G Q := by
  intro hw p e s m args below meth c T locs L hx hby hml hr0 hnm hown hZ hf hsz X hR hF
  have hqq := d.2
  subst hqq
  obtain ⟨T1, X1, e1, st1⟩ := Jvm.RoadKit.initO X hx hZ hown (hw _ w1) (hw _ w2) (hw _ w3) rfl (g := mkF m pc L (.ref a :: S)) rfl (by rw [hml]; exact hsz) rfl (hb hby d.1) hc.1 (W := W) (by show 2 * 0 + _ ≤ _; omega) hc.2
  obtain ⟨T', locs', k', n', r, G', g1, g2, g3, g4, g5, g6, g7, g8⟩ := h hw p e s m args below meth c T1 _ L hx hby hml hr0 hnm hown hZ hf hsz X1 (by rw [e1]; exact hR) hF
  exact ⟨T', locs', k', n', r, G', g1, g2, g3, g4, g5, g6, g7, fun fs hr => st1 _ (g8 fs hr)⟩
end Heap
/- a body's contract, and the calls that are paid by one -/
def Pays (C : Ctx) (N : Bdy) (as : List Value) (G : AH) (Q : Option Value → AH → Prop) : Prop :=
  Ok C → ∀ h0 : Heap, Rep C.2.1 C.2.2.1 h0 G → ∀ ws : List Jvm.Cond, MetFree C.1 N.1 (head1 (Jvm.Cond.code N.1 N.2.1 N.2.2.1 N.2.2.2.1 :: ws) N.2.2.2.2) (fun a U => a = as.toArray ∧ C.2.1.Warmed39 U.vm ∧ U.heap = h0) (fun _ _ _ _ _ => True)
    (fun _ U o U' => ∃ v L, o = .returned v ∧ (Fr C.2.2.1 L ∧ ∃ G', Rep C.2.1 C.2.2.1 U'.heap G' ∧ Q v G') ∧ FrameEnd U o U' L N.2.2.2.2.cells N.2.2.2.2.slots)
def lay : List Value → List Slot
  | [] => []
  | v :: l => if v.category = 2 then .val v :: .second :: lay l else .val v :: lay l
theorem lay_foldl (l : List Value) : ∀ acc : Array Slot, (l.foldl (fun acc v => if v.category = 2 then (acc.push (.val v)).push .second else acc.push (.val v)) acc).toList = acc.toList ++ lay l := by
  induction l with
  | nil => intro acc; simp [lay]
  | cons v l ih =>
    intro acc
    rw [List.foldl_cons, ih]
    by_cases h : v.category = 2 <;> simp [lay, h]
theorem args_lay (as : List Value) (ml : Nat) : argsToLocals as.toArray ml = (lay as ++ List.replicate (ml - (lay as).length) Slot.unset).toArray := by
  have h := lay_foldl as #[]
  apply Array.ext'
  simp only [argsToLocals, Array.toList_append, List.toList_toArray] at *
  rw [show (as.toArray.foldl (init := #[]) fun acc v => if v.category = 2 then (acc.push (Slot.val v)).push .second else acc.push (.val v)).toList = lay as by simpa using h]
  congr 1
  rw [← Array.length_toList, show (as.toArray.foldl (init := #[]) fun acc v => if v.category = 2 then (acc.push (Slot.val v)).push .second else acc.push (.val v)).toList = lay as by simpa using h]
  simp
def WFL (l : List Slot) : Prop := (∀ i : Nat, l[i]? = some .second → ∃ (j : Nat) (v : Value), i = j + 1 ∧ l[j]? = some (.val v) ∧ v.category = 2) ∧ (∀ (i : Nat) (v : Value), l[i]? = some (.val v) → v.category = 2 → l[i + 1]? = some .second)
theorem WFL.unset (n : Nat) : WFL (List.replicate n Slot.unset) := by
  refine ⟨fun i h => ?_, fun i v h => ?_⟩ <;> (rw [List.getElem?_replicate] at h; split at h <;> cases h)
theorem WFL.one {l : List Slot} {v : Value} (h : WFL l) (hv : v.category ≠ 2) : WFL (.val v :: l) := by
  refine ⟨fun i hi => ?_, fun i w hi hw => ?_⟩
  · cases i with
    | zero => simp at hi
    | succ i =>
      obtain ⟨j, w, e1, e2, e3⟩ := h.1 i (by simpa using hi)
      exact ⟨j + 1, w, by omega, by simpa using e2, e3⟩
  · cases i with
    | zero => simp at hi; subst hi; exact absurd hw hv
    | succ i => have := h.2 i w (by simpa using hi) hw; simpa using this
theorem WFL.two {l : List Slot} {v : Value} (h : WFL l) (hv : v.category = 2) : WFL (.val v :: .second :: l) := by
  refine ⟨fun i hi => ?_, fun i w hi hw => ?_⟩
  · match i, hi with
    | 0, hi => simp at hi
    | 1, hi => exact ⟨0, v, rfl, by simp, hv⟩
    | i + 2, hi =>
      obtain ⟨j, w, e1, e2, e3⟩ := h.1 i (by simpa using hi)
      exact ⟨j + 2, w, by omega, by simpa using e2, e3⟩
  · match i, hi with
    | 0, hi => simp
    | 1, hi => simp at hi
    | i + 2, hi => have := h.2 i w (by simpa using hi) hw; simpa using this
theorem WFL.lay (as : List Value) (n : Nat) : WFL (lay as ++ List.replicate n Slot.unset) := by
  induction as with
  | nil => exact WFL.unset n
  | cons v l ih =>
    by_cases h : v.category = 2
    · simpa [Jvm.Pilot.@@N@@.lay, h] using ih.two h
    · simpa [Jvm.Pilot.@@N@@.lay, h] using ih.one h
def pforget : List Bool → Pat → Pat
  | [], _ => []
  | _, [] => []
  | true :: ms, x :: l => x :: pforget ms l
  | false :: ms, _ :: l => none :: pforget ms l
theorem pforget_get : ∀ (ms : List Bool) (P : Pat) (i : Nat) (s : Slot), pget (pforget ms P) i = some s → pget P i = some s
  | [], _, i, s, h => by simp [pforget, pget] at h
  | _ :: _, [], i, s, h => by simp [pforget, pget] at h
  | true :: ms, x :: l, 0, s, h => h
  | true :: ms, x :: l, i + 1, s, h => pforget_get ms l i s h
  | false :: ms, x :: l, 0, s, h => by simp [pforget, pget] at h
  | false :: ms, x :: l, i + 1, s, h => pforget_get ms l i s h
section Calls
variable {C : Ctx} {M N : Bdy} {k n pc q : Nat} {P P' : Pat} {S S' : List Value} {G G1 : AH} {Q : Option Value → AH → Prop} {top : Nat} {a : Nat} {qq j idx W : Nat} {ob : Rec} {H : List (Nat × Nat × Rec)} {as : List Value}
theorem Runs.forget (ms : List Bool) (hP : pforget ms P = P') (h : Runs C M k n pc P' S G Q) : Runs C M k n pc P S G Q := by
  intro hw p e s m args below meth c T locs L hx hby hml hret hnm hown hZ hf
  subst hP
  exact h hw p e s m args below meth c T locs L hx hby hml hret hnm hown hZ ⟨fun i s hi => hf.1 i s (pforget_get _ _ i s hi), hf.2⟩
theorem Pays.of (hpl : plainName N.1.cls = true) (hml : (lay as).length ≤ N.2.2.1) (x : Nat) (hP : (lay as).map some ++ List.replicate x none = P) (h : Runs C N 0 0 0 P [] G Q) : Pays C N as G Q := by
  intro hw h0 hR ws
  refine MetFree.of_bodySF (plainFor_of_name hpl) hisR ?_
  intro p e s m args below meth c s₁ Bd hml0 hp hK
  obtain ⟨rfl, hZ, hh⟩ := hp
  have X0 : Stand p C.1 e N.2.2.2.2 s m as.toArray below meth c s₁ [] 0 0 := Stand.of_body Bd
  have e0 : s₁.heap = h0 := by rw [← hh, Bd.state]; rfl
  obtain ⟨L, hL⟩ : ∃ L : Array Slot, L = (lay as ++ List.replicate (N.2.2.1 - (lay as).length) Slot.unset).toArray := ⟨_, rfl⟩
  have hfit : Fits P L := by
    subst hP hL
    refine ⟨fun i s hi => ?_, ?_⟩
    · rw [pget_eq] at hi
      cases hq : (lay as)[i]? with
      | none =>
        rw [List.getElem?_append_right (by simpa using hq), List.getElem?_replicate] at hi
        split at hi <;> simp at hi
      | some y =>
        have hlt := (List.getElem?_eq_some_iff.mp hq).1
        rw [List.getElem?_append_left (by simpa using hlt), List.getElem?_map, hq] at hi
        have this : y = s := by simpa using hi
        simp only [List.getElem?_toArray]
        rw [List.getElem?_append_left hlt, hq, this]
    · have := WFL.lay as (N.2.2.1 - (lay as).length)
      refine ⟨fun i hi => ?_, fun i v hi hv => ?_⟩
      · rw [List.getElem?_toArray] at hi
        obtain ⟨j, v, e1, e2, e3⟩ := this.1 i hi
        exact ⟨j, v, e1, by rw [List.getElem?_toArray]; exact e2, e3⟩
      · rw [List.getElem?_toArray] at hi ⊢
        exact this.2 i v hi hv
  obtain ⟨T', locs', k', n', r, G', g1, g2, g3, g4, g5, g6, g7, g8⟩ := h hw p e s m as.toArray below meth c s₁ [] L Bd.exec Bd.bytes hml0 Bd.returns (name_of_methodNamed Bd.named Bd.method).1 (findClass_of_methodNamed Bd.named) hZ hfit (by rw [hL]; simp; omega) X0 (by rw [e0]; exact hR) (Fr.nil _)
  obtain ⟨fs, hr, hrun, hended, hW, hsame⟩ := g1.leave (v := r) (fun u => g7 (by rw [← Bd.returns]; exact u))
  refine ⟨_, _, ?_, hrun, hended, _, _, rfl, ⟨g5, G', ?_, g6⟩, ⟨_, rfl⟩, hW, hsame.mono g2 g3⟩
  · have ef : entryFrame m as.toArray N.2.2.1 = mkF m 0 L [] := by
      rw [hL, ← args_lay]; rfl
    rw [ef]; exact g8 fs hr
  · exact g4
abbrev room_al (M N : Bdy) (W k n : Nat) : Prop := N.2.2.2.2.frames + 1 ≤ M.2.2.2.2.frames ∧ W + (N.2.2.1 + 11) + N.2.2.2.2.locals ≤ M.2.2.2.2.locals ∧ k + N.2.2.2.2.cells ≤ M.2.2.2.2.cells ∧ n + N.2.2.2.2.slots ≤ M.2.2.2.2.slots
abbrev room_ok (M N : Bdy) (W : Nat) : Prop := N.2.2.2.2.frames + 1 ≤ M.2.2.2.2.frames ∧ W + (N.2.2.1 + 11) + N.2.2.2.2.locals ≤ M.2.2.2.2.locals ∧ N.2.2.2.2.cells = 0 ∧ N.2.2.2.2.slots = 0
abbrev full_ok (M : Bdy) (k n : Nat) : Prop := k ≤ M.2.2.2.2.cells ∧ n ≤ M.2.2.2.2.slots
theorem room_ok.al (h : room_ok M N W) (f : full_ok M k n) : room_al M N W k n := ⟨h.1, h.2.1, by rw [h.2.2.1]; exact f.1, by rw [h.2.2.2]; exact f.2⟩
abbrev code_w (N : Bdy) : Prop := Jvm.Cond.code N.1 N.2.1 N.2.2.1 N.2.2.2.1 ∈ tables_1 ∧ Jvm.Cond.initialized N.1.cls ∈ tables_1 ∧ (N.1.cls ≠ "java/lang/invoke/MethodHandle" ∧ N.1.cls ≠ "java/lang/invoke/VarHandle")
def arity (N : Bdy) (na : Nat) : Prop := ∃ ps r, parseMethodDescriptor N.1.desc = some ⟨ps, r⟩ ∧ na = ps.length
theorem arity.len {na : Nat} (h : arity N na) (e : as.length = na) : ∀ sig, parseMethodDescriptor N.1.desc = some sig → as.length = sig.parameters.length := by
  obtain ⟨ps, r, h1, h2⟩ := h
  exact lenOf h1 (e.trans h2)
theorem after_call {v : Option Value} {p : Program} {e : Env} {s : State} {m : MethodId} {args : Array Value} {below : List Frame} {meth : Method} {c : Code} {T T0 : State} {locs : List Loc} {L : Array Slot} {QN : Option Value → AH → Prop} {Lc : List Loc}
    (hw : Ok C) (hx : p.tables.exec = Jvm.exec) (hby : c.code = M.2.1) (hml : c.maxLocals = M.2.2.1) (hret : meth.sig.returnType = M.2.2.2.1) (hnm : meth.name = M.1.name) (hown : s.vm.findClass M.1.cls = some m.cls) (hZ : C.2.1.Warmed39 s.vm) (hf : Fits P L) (hsz : L.size = M.2.2.1) (hF : Fr C.2.2.1 locs)
    (X : Stand p C.1 e M.2.2.2.2 s m args below meth c T (locs ++ Lc) (k + N.2.2.2.2.cells) (n + N.2.2.2.2.slots)) (hQ : Fr C.2.2.1 Lc ∧ ∃ G', Rep C.2.1 C.2.2.1 T.heap G' ∧ QN v G')
    (h : ∀ v G', QN v G' → Runs C M (k + N.2.2.2.2.cells) (n + N.2.2.2.2.slots) (pc + 3) P (v.toList ++ S') G' Q)
    (st : ∀ t, Steps p.tables e below (T.setTop (mkF m (pc + 3) L (v.toList ++ S'))) t → Steps p.tables e below (T0.setTop (mkF m pc L S)) t) :
    ∃ (T' : State) (locs' : List Loc) (k' n' : Nat) (r : Option Value) (G' : AH), Stand p C.1 e M.2.2.2.2 s m args below meth c T' locs' k' n' ∧ k' ≤ M.2.2.2.2.cells ∧ n' ≤ M.2.2.2.2.slots ∧ Rep C.2.1 C.2.2.1 T'.heap G' ∧ Fr C.2.2.1 locs' ∧ Q r G' ∧
      (M.2.2.2.1 = none → r = none) ∧
      ∀ fs : List Frame, (∀ (f : JFrame) (acts : List Action), f.method = m → f.locked = none → f.entered = [] → (doReturn e (T'.setTop f) acts r).1 = T'.setFrames fs) → Steps p.tables e below (T0.setTop (mkF m pc L S)) (T'.setFrames fs) := by
  obtain ⟨f1, G', f2, f3⟩ := hQ
  obtain ⟨T', locs', k', n', r, G'', g1, g2, g3, g4, g5, g6, g7, g8⟩ := h v G' f3 hw p e s m args below meth c T _ L hx hby hml hret hnm hown hZ hf hsz X f2 (Fr.app hF f1)
  exact ⟨T', locs', k', n', r, G'', g1, g2, g3, g4, g5, g6, g7, fun fs hr => st _ (g8 fs hr)⟩
theorem Runs.callS {QN : Option Value → AH → Prop} (d : DAt M pc (.invokestatic idx) 3 q) (wl : Jvm.Cond.methodLink M.1.cls idx N.1 ∈ tables_1) (wt : Jvm.Cond.static N.1 ∈ tables_1) (wc : code_w N) (ar : arity N as.length) (hr0 : room_ok M N W) (hfull : full_ok M k n) (hS : S = as.reverse ++ S') (hW : (S'.map fun v => v.category).sum = W)
    (hN : Pays C N as G QN) (h : ∀ v G', QN v G' → Runs C M k n q P (v.toList ++ S') G' Q) : Runs C M k n pc P S G Q := by
  intro hw p e s m args below meth c T locs L hx hby hml hret hnm hown hZ hf hsz X hR hF
  have hq := d.2
  subst hq hS
  have hr := hr0.al hfull
  obtain ⟨_, _, ⟨T1, L1, k1, n1⟩, -, X1, ⟨Lc, hQ, l1, y1, z1⟩, st⟩ := Jvm.LawKit.callS X hx (y := N.1) hown (mvT hZ (hw _ wl)) (mvT hZ (hw _ wt)) (mvT hZ (hw _ wc.2.1)) (mvT hZ (hw _ wc.1)) wc.2.2 (backOf (W := W) (Q := fun v h L => Fr C.2.2.1 L ∧ ∃ G', Rep C.2.1 C.2.2.1 h G' ∧ QN v G') (hN hw T.heap hR []) hZ (hw _ wc.1) (hw _ wc.2.1) hr.1 hr.2.1) (g := mkF m pc L (as.reverse ++ S')) rfl (by rw [hml]; exact hsz) (argsL := as) (rest := S') (ar.len rfl) rfl (by show 2 * 0 + _ ≤ _; omega) (hb hby d.1) (fun _ _ => ⟨rfl, rfl, hr.2.2.1, hr.2.2.2⟩)
  dsimp only [Pt.U, Pt.locs, Pt.cells, Pt.slots] at X1 l1 y1 z1 st hQ
  subst l1 y1 z1
  exact after_call hw hx hby hml hret hnm hown hZ hf hsz hF X1 hQ (by rw [hr0.2.2.1, hr0.2.2.2]; exact h) (fun t u => st t u)
theorem Runs.callV {QN : Option Value → AH → Prop} (d : DAt M pc (.invokevirtual idx) 3 q) (wl : Jvm.Cond.methodLink M.1.cls idx N.1 ∈ tables_1) (wd : Jvm.Cond.declares N.1 ∈ tables_1) (wi : Jvm.Cond.instanceMethod N.1 ∈ tables_1) (ws : Jvm.Cond.selects K.1 N.1 N.1 ∈ tables_1) (wc : code_w N) (ar : arity N as.length) (hr0 : room_ok M N W) (hfull : full_ok M k n) (hS : S = as.reverse ++ .ref a :: S') (hW : (S'.map fun v => v.category).sum = W)
    (hN : Pays C N (.ref a :: as) (top, (a, qq, ob) :: H) QN) (h : ∀ v G', QN v G' → Runs C M k n q P (v.toList ++ S') G' Q) : Runs C M k n pc P S (top, (a, qq, ob) :: H) Q := by
  intro hw p e s m args below meth c T locs L hx hby hml hret hnm hown hZ hf hsz X hR hF
  have hq := d.2
  subst hq hS
  have hr := hr0.al hfull
  obtain ⟨cB, kB, u1, -, u3⟩ := isOf hZ rfl hR.objs.2.2.1
  obtain ⟨_, _, ⟨T1, L1, k1, n1⟩, -, X1, ⟨Lc, hQ, l1, y1, z1⟩, st⟩ := X.virtualBack hx (y := N.1) (z := N.1) hown (mvT hZ (hw _ wl)) (mvT hZ (hw _ wd)) (notFace_of_selects (args := #[]) (mvT hZ (hw _ ws))) (mvT hZ (hw _ ws)) (mvT hZ (hw _ wi)) wc.2.2 (backOf (W := W) (Q := fun v h L => Fr C.2.2.1 L ∧ ∃ G', Rep C.2.1 C.2.2.1 h G' ∧ QN v G') (hN hw T.heap hR []) hZ (hw _ wc.1) (hw _ wc.2.1) hr.1 hr.2.1) u1 u3 (g := mkF m pc L (as.reverse ++ .ref a :: S')) rfl (by rw [hml]; exact hsz) (Steps.refl _) (argsL := as) (rest := S') (ar.len rfl) rfl (by show 2 * 0 + _ ≤ _; omega) (hb hby d.1) (fun _ _ => ⟨rfl, rfl, hr.2.2.1, hr.2.2.2⟩)
  dsimp only [Pt.U, Pt.locs, Pt.cells, Pt.slots] at X1 l1 y1 z1 st hQ
  subst l1 y1 z1
  exact after_call hw hx hby hml hret hnm hown hZ hf hsz hF X1 hQ (by rw [hr0.2.2.1, hr0.2.2.2]; exact h) (fun t u => st.trans u)
theorem Runs.callP {QN : Option Value → AH → Prop} (d : DAt M pc (.invokevirtual idx) 3 q) (wl : Jvm.Cond.methodLink M.1.cls idx N.1 ∈ tables_1) (wi : Jvm.Cond.instanceMethod N.1 ∈ tables_1) (wp : Jvm.Cond.privateMethod N.1 ∈ tables_1) (wK : N.1.cls = K.1) (wc : code_w N) (ar : arity N as.length) (hr0 : room_ok M N W) (hfull : full_ok M k n) (hS : S = as.reverse ++ .ref a :: S') (hW : (S'.map fun v => v.category).sum = W)
    (hN : Pays C N (.ref a :: as) (top, (a, qq, ob) :: H) QN) (h : ∀ v G', QN v G' → Runs C M k n q P (v.toList ++ S') G' Q) : Runs C M k n pc P S (top, (a, qq, ob) :: H) Q := by
  intro hw p e s m args below meth c T locs L hx hby hml hret hnm hown hZ hf hsz X hR hF
  have hq := d.2
  subst hq hS
  have hr := hr0.al hfull
  obtain ⟨cl, u1, u2⟩ := hR.objs.2.2.1.cell
  have hpr : s.PrivateAt N.1 := Cond.privateMethod_at (mvP hZ (hw _ wp) (args := #[]))
  obtain ⟨c2, k2, i1, i2, i3, i4, -⟩ := Cond.instantiable_spec (mvT (args := args) hZ (hw _ kI))
  have hsel : (Jvm.Cond.selects N.1.cls N.1 N.1).before args s = true := Stand.selects_self_of_private (by rw [wK]; exact i1) i2 (by simp at i4; exact i4.1) hpr (mvT hZ (hw _ wi)) wc.2.2
  obtain ⟨_, _, ⟨T1, L1, k1, n1⟩, -, X1, ⟨Lc, hQ, l1, y1, z1⟩, st⟩ := X.privateBack hx (y := N.1) hown (mvT hZ (hw _ wl)) (mvT hZ (hw _ wi)) hsel hpr (mvT hZ (hw _ wc.1)) wc.2.2 (backOf (W := W) (Q := fun v h L => Fr C.2.2.1 L ∧ ∃ G', Rep C.2.1 C.2.2.1 h G' ∧ QN v G') (hN hw T.heap hR []) hZ (hw _ wc.1) (hw _ wc.2.1) hr.1 hr.2.1) (g := mkF m pc L (as.reverse ++ .ref a :: S')) rfl (by rw [hml]; exact hsz) (Steps.refl _) (a := a) u1 u2 (argsL := as) (rest := S') (ar.len rfl) rfl (by show 2 * 0 + _ ≤ _; omega) (hb hby d.1) (fun _ _ => ⟨rfl, rfl, hr.2.2.1, hr.2.2.2⟩)
  dsimp only [Pt.U, Pt.locs, Pt.cells, Pt.slots] at X1 l1 y1 z1 st hQ
  subst l1 y1 z1
  exact after_call hw hx hby hml hret hnm hown hZ hf hsz hF X1 hQ (by rw [hr0.2.2.1, hr0.2.2.2]; exact h) (fun t u => st.trans u)
theorem Runs.callI {QN : Option Value → AH → Prop} (d : DAt M pc (.invokespecial idx) 3 q) (hi : N.1.name = "<init>") (hn : N.2.2.2.1 = none) (wl : Jvm.Cond.methodLink M.1.cls idx N.1 ∈ tables_1) (wi : Jvm.Cond.instanceMethod N.1 ∈ tables_1) (wc : code_w N) (ar : arity N as.length) (hr : room_al M N W k n) (hS : S = as.reverse ++ .ref a :: S') (hW : (S'.map fun v => v.category).sum = W) {k' n' : Nat} (hk' : k + N.2.2.2.2.cells = k') (hn' : n + N.2.2.2.2.slots = n')
    (hN : Pays C N (.ref a :: as) G QN) (h : ∀ v G', QN v G' → Runs C M k' n' q P (v.toList ++ S') G' Q) : Runs C M k n pc P S G Q := by
  intro hw p e s m args below meth c T locs L hx hby hml hret hnm hown hZ hf hsz X hR hF
  have hq := d.2
  subst hq hS hk' hn'
  have wc1 := hw _ wc.1
  obtain ⟨_, _, ⟨T1, L1, k1, n1⟩, -, X1, ⟨Lc, hQ, l1, y1, z1⟩, st⟩ := X.specialBack hx (y := N.1) hi hown (mvT hZ (hw _ wl)) (mvT hZ (hw _ wi)) (bytes := N.2.1) (maxL := N.2.2.1) (by have := mvT (args := args) hZ wc1; rw [hn] at this; exact this) wc.2.2 (backOf (W := W) (Q := fun v h L => Fr C.2.2.1 L ∧ ∃ G', Rep C.2.1 C.2.2.1 h G' ∧ QN v G') (hN hw T.heap hR []) hZ wc1 (hw _ wc.2.1) hr.1 hr.2.1) (g := mkF m pc L (as.reverse ++ .ref a :: S')) rfl (by rw [hml]; exact hsz) (Steps.refl _) (a := a) (argsL := as) (rest := S') (ar.len rfl) rfl (by show 2 * 0 + _ ≤ _; omega) (hb hby d.1) (fun _ _ => ⟨rfl, rfl, hr.2.2.1, hr.2.2.2⟩)
  dsimp only [Pt.U, Pt.locs, Pt.cells, Pt.slots] at X1 l1 y1 z1 st hQ
  subst l1 y1 z1
  exact after_call hw hx hby hml hret hnm hown hZ hf hsz hF X1 hQ h (fun t u => st.trans u)
/-- the plain form of a contract: one answer, one heap -/
abbrev Ans (r : Option Value) (G1 : AH) : Option Value → AH → Prop := fun v G' => v = r ∧ G' = G1
theorem ans1 {x : Value} {k n : Nat} (h : Runs C M k n pc P (x :: S) G1 Q) : ∀ v G', Ans (some x) G1 v G' → Runs C M k n pc P (v.toList ++ S) G' Q := by
  rintro v G' ⟨rfl, rfl⟩; exact h
theorem ans0 {k n : Nat} (h : Runs C M k n pc P S G1 Q) : ∀ v G', Ans none G1 v G' → Runs C M k n pc P (v.toList ++ S) G' Q := by
  rintro v G' ⟨rfl, rfl⟩; exact h
end Calls
theorem pnK : plainName "CausalStable" = true := by first | (simp [plainName, overriddenIn]; done) | decide +kernel
theorem pnL : plainName "CausalStableL7" = true := by first | (simp [plainName, overriddenIn]; done) | decide +kernel
theorem w0 : (Jvm.Cond.classLink "CausalStableL7" (7 : Nat) "CausalStable") ∈ tables_1 := mem1 0 rfl
theorem w3 : (Jvm.Cond.methodLink "CausalStableL7" (9 : Nat) ({ cls := "CausalStable", name := "<init>", desc := "(II)V" } : Jvm.MethodName)) ∈ tables_1 := mem1 3 rfl
theorem w4 : (Jvm.Cond.instanceMethod ({ cls := "CausalStable", name := "<init>", desc := "(II)V" } : Jvm.MethodName)) ∈ tables_1 := mem1 4 rfl
theorem w6 : (Jvm.Cond.methodLink "CausalStable" (1 : Nat) ({ cls := "java/lang/Object", name := "<init>", desc := "()V" } : Jvm.MethodName)) ∈ tables_1 := mem1 6 rfl
theorem w7 : (Jvm.Cond.instanceMethod ({ cls := "java/lang/Object", name := "<init>", desc := "()V" } : Jvm.MethodName)) ∈ tables_1 := mem1 7 rfl
theorem w8 : (Jvm.Cond.code ({ cls := "java/lang/Object", name := "<init>", desc := "()V" } : Jvm.MethodName) object_method_1_code (1 : Nat) (Option.none : Option Jvm.ClassFile.FieldType)) ∈ tables_1 := mem1 8 rfl
theorem w9 : (Jvm.Cond.arrayClass Jvm.ClassFile.FieldType.int) ∈ tables_1 := mem1 9 rfl
theorem w10 : (Jvm.Cond.fieldLink "CausalStable" (7 : Nat) "CausalStable" "sentCount" "[I") ∈ tables_1 := mem1 10 rfl
theorem w11 : (Jvm.Cond.lays "CausalStable" "CausalStable" "sentCount" "[I") ∈ tables_1 := mem1 11 rfl
theorem w12 : (Jvm.Cond.arrayClass Jvm.ClassFile.FieldType.boolean) ∈ tables_1 := mem1 12 rfl
theorem w13 : (Jvm.Cond.fieldLink "CausalStable" (13 : Nat) "CausalStable" "crashedFlag" "[Z") ∈ tables_1 := mem1 13 rfl
theorem w14 : (Jvm.Cond.lays "CausalStable" "CausalStable" "crashedFlag" "[Z") ∈ tables_1 := mem1 14 rfl
theorem w15 : (Jvm.Cond.fieldLink "CausalStable" (17 : Nat) "CausalStable" "del" "[I") ∈ tables_1 := mem1 15 rfl
theorem w16 : (Jvm.Cond.lays "CausalStable" "CausalStable" "del" "[I") ∈ tables_1 := mem1 16 rfl
theorem w17 : (Jvm.Cond.fieldLink "CausalStable" (20 : Nat) "CausalStable" "msgState" "[I") ∈ tables_1 := mem1 17 rfl
theorem w18 : (Jvm.Cond.lays "CausalStable" "CausalStable" "msgState" "[I") ∈ tables_1 := mem1 18 rfl
theorem w19 : (Jvm.Cond.fieldLink "CausalStable" (23 : Nat) "CausalStable" "stampArr" "[I") ∈ tables_1 := mem1 19 rfl
theorem w20 : (Jvm.Cond.lays "CausalStable" "CausalStable" "stampArr" "[I") ∈ tables_1 := mem1 20 rfl
theorem w21 : (Jvm.Cond.fieldLink "CausalStable" (26 : Nat) "CausalStable" "copyArr" "[I") ∈ tables_1 := mem1 21 rfl
theorem w22 : (Jvm.Cond.lays "CausalStable" "CausalStable" "copyArr" "[I") ∈ tables_1 := mem1 22 rfl
theorem w23 : (Jvm.Cond.fieldLink "CausalStable" (29 : Nat) "CausalStable" "known" "[I") ∈ tables_1 := mem1 23 rfl
theorem w24 : (Jvm.Cond.lays "CausalStable" "CausalStable" "known" "[I") ∈ tables_1 := mem1 24 rfl
theorem w25 : (Jvm.Cond.fieldLink "CausalStable" (32 : Nat) "CausalStable" "list" "[I") ∈ tables_1 := mem1 25 rfl
theorem w26 : (Jvm.Cond.lays "CausalStable" "CausalStable" "list" "[I") ∈ tables_1 := mem1 26 rfl
theorem w27 : (Jvm.Cond.fieldLink "CausalStable" (35 : Nat) "CausalStable" "listLen" "[I") ∈ tables_1 := mem1 27 rfl
theorem w28 : (Jvm.Cond.lays "CausalStable" "CausalStable" "listLen" "[I") ∈ tables_1 := mem1 28 rfl
theorem w29 : (Jvm.Cond.fieldLink "CausalStable" (38 : Nat) "CausalStable" "n" "I") ∈ tables_1 := mem1 29 rfl
theorem w30 : (Jvm.Cond.lays "CausalStable" "CausalStable" "n" "I") ∈ tables_1 := mem1 30 rfl
theorem w31 : (Jvm.Cond.fieldLink "CausalStable" (42 : Nat) "CausalStable" "cap" "I") ∈ tables_1 := mem1 31 rfl
theorem w32 : (Jvm.Cond.lays "CausalStable" "CausalStable" "cap" "I") ∈ tables_1 := mem1 32 rfl
theorem w33 : (Jvm.Cond.methodLink "CausalStableL7" (12 : Nat) ({ cls := "CausalStableL7", name := "fp", desc := "(LCausalStable;)J" } : Jvm.MethodName)) ∈ tables_1 := mem1 33 rfl
theorem w34 : (Jvm.Cond.static ({ cls := "CausalStableL7", name := "fp", desc := "(LCausalStable;)J" } : Jvm.MethodName)) ∈ tables_1 := mem1 34 rfl
theorem w37 : (Jvm.Cond.constantLong "CausalStableL7" (46 : Nat) (17 : Int64)) ∈ tables_1 := mem1 37 rfl
theorem w38 : (Jvm.Cond.constantLong "CausalStableL7" (48 : Nat) (1000003 : Int64)) ∈ tables_1 := mem1 38 rfl
theorem w39 : (Jvm.Cond.methodLink "CausalStableL7" (50 : Nat) ({ cls := "CausalStable", name := "stamp", desc := "(III)I" } : Jvm.MethodName)) ∈ tables_1 := mem1 39 rfl
theorem w40 : (Jvm.Cond.declares ({ cls := "CausalStable", name := "stamp", desc := "(III)I" } : Jvm.MethodName)) ∈ tables_1 := mem1 40 rfl
theorem w41 : (Jvm.Cond.instanceMethod ({ cls := "CausalStable", name := "stamp", desc := "(III)I" } : Jvm.MethodName)) ∈ tables_1 := mem1 41 rfl
theorem w42 : (Jvm.Cond.selects "CausalStable" ({ cls := "CausalStable", name := "stamp", desc := "(III)I" } : Jvm.MethodName) ({ cls := "CausalStable", name := "stamp", desc := "(III)I" } : Jvm.MethodName)) ∈ tables_1 := mem1 42 rfl
theorem w44 : (Jvm.Cond.methodLink "CausalStable" (52 : Nat) ({ cls := "CausalStable", name := "exists", desc := "(II)Z" } : Jvm.MethodName)) ∈ tables_1 := mem1 44 rfl
theorem w45 : (Jvm.Cond.instanceMethod ({ cls := "CausalStable", name := "exists", desc := "(II)Z" } : Jvm.MethodName)) ∈ tables_1 := mem1 45 rfl
theorem w46 : (Jvm.Cond.privateMethod ({ cls := "CausalStable", name := "exists", desc := "(II)Z" } : Jvm.MethodName)) ∈ tables_1 := mem1 46 rfl
theorem w48 : (Jvm.Cond.methodLink "CausalStableL7" (53 : Nat) ({ cls := "CausalStable", name := "copies", desc := "(III)I" } : Jvm.MethodName)) ∈ tables_1 := mem1 48 rfl
theorem w49 : (Jvm.Cond.declares ({ cls := "CausalStable", name := "copies", desc := "(III)I" } : Jvm.MethodName)) ∈ tables_1 := mem1 49 rfl
theorem w50 : (Jvm.Cond.instanceMethod ({ cls := "CausalStable", name := "copies", desc := "(III)I" } : Jvm.MethodName)) ∈ tables_1 := mem1 50 rfl
theorem w51 : (Jvm.Cond.selects "CausalStable" ({ cls := "CausalStable", name := "copies", desc := "(III)I" } : Jvm.MethodName) ({ cls := "CausalStable", name := "copies", desc := "(III)I" } : Jvm.MethodName)) ∈ tables_1 := mem1 51 rfl
theorem w53 : (Jvm.Cond.methodLink "CausalStableL7" (56 : Nat) ({ cls := "CausalStable", name := "state", desc := "(III)I" } : Jvm.MethodName)) ∈ tables_1 := mem1 53 rfl
theorem w54 : (Jvm.Cond.declares ({ cls := "CausalStable", name := "state", desc := "(III)I" } : Jvm.MethodName)) ∈ tables_1 := mem1 54 rfl
theorem w55 : (Jvm.Cond.instanceMethod ({ cls := "CausalStable", name := "state", desc := "(III)I" } : Jvm.MethodName)) ∈ tables_1 := mem1 55 rfl
theorem w56 : (Jvm.Cond.selects "CausalStable" ({ cls := "CausalStable", name := "state", desc := "(III)I" } : Jvm.MethodName) ({ cls := "CausalStable", name := "state", desc := "(III)I" } : Jvm.MethodName)) ∈ tables_1 := mem1 56 rfl
theorem w58 : (Jvm.Cond.methodLink "CausalStable" (68 : Nat) ({ cls := "CausalStable", name := "validProc", desc := "(I)Z" } : Jvm.MethodName)) ∈ tables_1 := mem1 58 rfl
theorem w59 : (Jvm.Cond.instanceMethod ({ cls := "CausalStable", name := "validProc", desc := "(I)Z" } : Jvm.MethodName)) ∈ tables_1 := mem1 59 rfl
theorem w60 : (Jvm.Cond.privateMethod ({ cls := "CausalStable", name := "validProc", desc := "(I)Z" } : Jvm.MethodName)) ∈ tables_1 := mem1 60 rfl
theorem w62 : (Jvm.Cond.methodLink "CausalStableL7" (59 : Nat) ({ cls := "CausalStable", name := "known", desc := "(III)I" } : Jvm.MethodName)) ∈ tables_1 := mem1 62 rfl
theorem w63 : (Jvm.Cond.declares ({ cls := "CausalStable", name := "known", desc := "(III)I" } : Jvm.MethodName)) ∈ tables_1 := mem1 63 rfl
theorem w64 : (Jvm.Cond.instanceMethod ({ cls := "CausalStable", name := "known", desc := "(III)I" } : Jvm.MethodName)) ∈ tables_1 := mem1 64 rfl
theorem w65 : (Jvm.Cond.selects "CausalStable" ({ cls := "CausalStable", name := "known", desc := "(III)I" } : Jvm.MethodName) ({ cls := "CausalStable", name := "known", desc := "(III)I" } : Jvm.MethodName)) ∈ tables_1 := mem1 65 rfl
theorem w67 : (Jvm.Cond.methodLink "CausalStable" (49 : Nat) ({ cls := "CausalStable", name := "knownIndex", desc := "(III)I" } : Jvm.MethodName)) ∈ tables_1 := mem1 67 rfl
theorem w68 : (Jvm.Cond.instanceMethod ({ cls := "CausalStable", name := "knownIndex", desc := "(III)I" } : Jvm.MethodName)) ∈ tables_1 := mem1 68 rfl
theorem w69 : (Jvm.Cond.privateMethod ({ cls := "CausalStable", name := "knownIndex", desc := "(III)I" } : Jvm.MethodName)) ∈ tables_1 := mem1 69 rfl
theorem w71 : (Jvm.Cond.methodLink "CausalStableL7" (62 : Nat) ({ cls := "CausalStable", name := "deliveredAt", desc := "(II)I" } : Jvm.MethodName)) ∈ tables_1 := mem1 71 rfl
theorem w72 : (Jvm.Cond.declares ({ cls := "CausalStable", name := "deliveredAt", desc := "(II)I" } : Jvm.MethodName)) ∈ tables_1 := mem1 72 rfl
theorem w73 : (Jvm.Cond.instanceMethod ({ cls := "CausalStable", name := "deliveredAt", desc := "(II)I" } : Jvm.MethodName)) ∈ tables_1 := mem1 73 rfl
theorem w74 : (Jvm.Cond.selects "CausalStable" ({ cls := "CausalStable", name := "deliveredAt", desc := "(II)I" } : Jvm.MethodName) ({ cls := "CausalStable", name := "deliveredAt", desc := "(II)I" } : Jvm.MethodName)) ∈ tables_1 := mem1 74 rfl
theorem w76 : (Jvm.Cond.methodLink "CausalStableL7" (65 : Nat) ({ cls := "CausalStable", name := "delivered", desc := "(II)I" } : Jvm.MethodName)) ∈ tables_1 := mem1 76 rfl
theorem w77 : (Jvm.Cond.declares ({ cls := "CausalStable", name := "delivered", desc := "(II)I" } : Jvm.MethodName)) ∈ tables_1 := mem1 77 rfl
theorem w78 : (Jvm.Cond.instanceMethod ({ cls := "CausalStable", name := "delivered", desc := "(II)I" } : Jvm.MethodName)) ∈ tables_1 := mem1 78 rfl
theorem w79 : (Jvm.Cond.selects "CausalStable" ({ cls := "CausalStable", name := "delivered", desc := "(II)I" } : Jvm.MethodName) ({ cls := "CausalStable", name := "delivered", desc := "(II)I" } : Jvm.MethodName)) ∈ tables_1 := mem1 79 rfl
theorem w81 : (Jvm.Cond.methodLink "CausalStableL7" (68 : Nat) ({ cls := "CausalStable", name := "sent", desc := "(I)I" } : Jvm.MethodName)) ∈ tables_1 := mem1 81 rfl
theorem w82 : (Jvm.Cond.declares ({ cls := "CausalStable", name := "sent", desc := "(I)I" } : Jvm.MethodName)) ∈ tables_1 := mem1 82 rfl
theorem w83 : (Jvm.Cond.instanceMethod ({ cls := "CausalStable", name := "sent", desc := "(I)I" } : Jvm.MethodName)) ∈ tables_1 := mem1 83 rfl
theorem w84 : (Jvm.Cond.selects "CausalStable" ({ cls := "CausalStable", name := "sent", desc := "(I)I" } : Jvm.MethodName) ({ cls := "CausalStable", name := "sent", desc := "(I)I" } : Jvm.MethodName)) ∈ tables_1 := mem1 84 rfl
theorem w86 : (Jvm.Cond.methodLink "CausalStableL7" (71 : Nat) ({ cls := "CausalStable", name := "isCrashed", desc := "(I)Z" } : Jvm.MethodName)) ∈ tables_1 := mem1 86 rfl
theorem w87 : (Jvm.Cond.declares ({ cls := "CausalStable", name := "isCrashed", desc := "(I)Z" } : Jvm.MethodName)) ∈ tables_1 := mem1 87 rfl
theorem w88 : (Jvm.Cond.instanceMethod ({ cls := "CausalStable", name := "isCrashed", desc := "(I)Z" } : Jvm.MethodName)) ∈ tables_1 := mem1 88 rfl
theorem w89 : (Jvm.Cond.selects "CausalStable" ({ cls := "CausalStable", name := "isCrashed", desc := "(I)Z" } : Jvm.MethodName) ({ cls := "CausalStable", name := "isCrashed", desc := "(I)Z" } : Jvm.MethodName)) ∈ tables_1 := mem1 89 rfl
theorem w91 : (Jvm.Cond.constantLong "CausalStableL7" (77 : Nat) (11 : Int64)) ∈ tables_1 := mem1 91 rfl
theorem w92 : (Jvm.Cond.methodLink "CausalStableL7" (18 : Nat) ({ cls := "CausalStable", name := "broadcast", desc := "(I)I" } : Jvm.MethodName)) ∈ tables_1 := mem1 92 rfl
theorem w93 : (Jvm.Cond.declares ({ cls := "CausalStable", name := "broadcast", desc := "(I)I" } : Jvm.MethodName)) ∈ tables_1 := mem1 93 rfl
theorem w94 : (Jvm.Cond.instanceMethod ({ cls := "CausalStable", name := "broadcast", desc := "(I)I" } : Jvm.MethodName)) ∈ tables_1 := mem1 94 rfl
theorem w95 : (Jvm.Cond.selects "CausalStable" ({ cls := "CausalStable", name := "broadcast", desc := "(I)I" } : Jvm.MethodName) ({ cls := "CausalStable", name := "broadcast", desc := "(I)I" } : Jvm.MethodName)) ∈ tables_1 := mem1 95 rfl
theorem w97 : (Jvm.Cond.methodLink "CausalStable" (56 : Nat) ({ cls := "CausalStable", name := "msgIndex", desc := "(II)I" } : Jvm.MethodName)) ∈ tables_1 := mem1 97 rfl
theorem w98 : (Jvm.Cond.instanceMethod ({ cls := "CausalStable", name := "msgIndex", desc := "(II)I" } : Jvm.MethodName)) ∈ tables_1 := mem1 98 rfl
theorem w99 : (Jvm.Cond.privateMethod ({ cls := "CausalStable", name := "msgIndex", desc := "(II)I" } : Jvm.MethodName)) ∈ tables_1 := mem1 99 rfl
theorem w101 : (Jvm.Cond.methodLink "CausalStable" (64 : Nat) ({ cls := "CausalStable", name := "deliverAt", desc := "(III)V" } : Jvm.MethodName)) ∈ tables_1 := mem1 101 rfl
theorem w102 : (Jvm.Cond.instanceMethod ({ cls := "CausalStable", name := "deliverAt", desc := "(III)V" } : Jvm.MethodName)) ∈ tables_1 := mem1 102 rfl
theorem w103 : (Jvm.Cond.privateMethod ({ cls := "CausalStable", name := "deliverAt", desc := "(III)V" } : Jvm.MethodName)) ∈ tables_1 := mem1 103 rfl
theorem w105 : (Jvm.Cond.methodLink "CausalStable" (45 : Nat) ({ cls := "CausalStable", name := "stateIndex", desc := "(III)I" } : Jvm.MethodName)) ∈ tables_1 := mem1 105 rfl
theorem w106 : (Jvm.Cond.instanceMethod ({ cls := "CausalStable", name := "stateIndex", desc := "(III)I" } : Jvm.MethodName)) ∈ tables_1 := mem1 106 rfl
theorem w107 : (Jvm.Cond.privateMethod ({ cls := "CausalStable", name := "stateIndex", desc := "(III)I" } : Jvm.MethodName)) ∈ tables_1 := mem1 107 rfl
theorem w109 : (Jvm.Cond.methodLink "CausalStable" (72 : Nat) ({ cls := "CausalStable", name := "copyIndex", desc := "(III)I" } : Jvm.MethodName)) ∈ tables_1 := mem1 109 rfl
theorem w110 : (Jvm.Cond.instanceMethod ({ cls := "CausalStable", name := "copyIndex", desc := "(III)I" } : Jvm.MethodName)) ∈ tables_1 := mem1 110 rfl
theorem w111 : (Jvm.Cond.privateMethod ({ cls := "CausalStable", name := "copyIndex", desc := "(III)I" } : Jvm.MethodName)) ∈ tables_1 := mem1 111 rfl
theorem w113 : (Jvm.Cond.methodLink "CausalStableL7" (26 : Nat) ({ cls := "CausalStable", name := "duplicate", desc := "(III)I" } : Jvm.MethodName)) ∈ tables_1 := mem1 113 rfl
theorem w114 : (Jvm.Cond.declares ({ cls := "CausalStable", name := "duplicate", desc := "(III)I" } : Jvm.MethodName)) ∈ tables_1 := mem1 114 rfl
theorem w115 : (Jvm.Cond.instanceMethod ({ cls := "CausalStable", name := "duplicate", desc := "(III)I" } : Jvm.MethodName)) ∈ tables_1 := mem1 115 rfl
theorem w116 : (Jvm.Cond.selects "CausalStable" ({ cls := "CausalStable", name := "duplicate", desc := "(III)I" } : Jvm.MethodName) ({ cls := "CausalStable", name := "duplicate", desc := "(III)I" } : Jvm.MethodName)) ∈ tables_1 := mem1 116 rfl
theorem w118 : (Jvm.Cond.methodLink "CausalStableL7" (43 : Nat) ({ cls := "CausalStable", name := "crash", desc := "(I)I" } : Jvm.MethodName)) ∈ tables_1 := mem1 118 rfl
theorem w119 : (Jvm.Cond.declares ({ cls := "CausalStable", name := "crash", desc := "(I)I" } : Jvm.MethodName)) ∈ tables_1 := mem1 119 rfl
theorem w120 : (Jvm.Cond.instanceMethod ({ cls := "CausalStable", name := "crash", desc := "(I)I" } : Jvm.MethodName)) ∈ tables_1 := mem1 120 rfl
theorem w121 : (Jvm.Cond.selects "CausalStable" ({ cls := "CausalStable", name := "crash", desc := "(I)I" } : Jvm.MethodName) ({ cls := "CausalStable", name := "crash", desc := "(I)I" } : Jvm.MethodName)) ∈ tables_1 := mem1 121 rfl
theorem w123 : (Jvm.Cond.methodLink "CausalStable" (82 : Nat) ({ cls := "CausalStable", name := "othersAllCrashed", desc := "(I)Z" } : Jvm.MethodName)) ∈ tables_1 := mem1 123 rfl
theorem w124 : (Jvm.Cond.instanceMethod ({ cls := "CausalStable", name := "othersAllCrashed", desc := "(I)Z" } : Jvm.MethodName)) ∈ tables_1 := mem1 124 rfl
theorem w125 : (Jvm.Cond.privateMethod ({ cls := "CausalStable", name := "othersAllCrashed", desc := "(I)Z" } : Jvm.MethodName)) ∈ tables_1 := mem1 125 rfl
theorem w127 : (Jvm.Cond.constantLong "CausalStableL7" (75 : Nat) (7 : Int64)) ∈ tables_1 := mem1 127 rfl
theorem w128 : (Jvm.Cond.methodLink "CausalStableL7" (22 : Nat) ({ cls := "CausalStable", name := "receive", desc := "(III)I" } : Jvm.MethodName)) ∈ tables_1 := mem1 128 rfl
theorem w129 : (Jvm.Cond.declares ({ cls := "CausalStable", name := "receive", desc := "(III)I" } : Jvm.MethodName)) ∈ tables_1 := mem1 129 rfl
theorem w130 : (Jvm.Cond.instanceMethod ({ cls := "CausalStable", name := "receive", desc := "(III)I" } : Jvm.MethodName)) ∈ tables_1 := mem1 130 rfl
theorem w131 : (Jvm.Cond.selects "CausalStable" ({ cls := "CausalStable", name := "receive", desc := "(III)I" } : Jvm.MethodName) ({ cls := "CausalStable", name := "receive", desc := "(III)I" } : Jvm.MethodName)) ∈ tables_1 := mem1 131 rfl
theorem w133 : (Jvm.Cond.methodLink "CausalStableL7" (40 : Nat) ({ cls := "CausalStable", name := "prune", desc := "(I)I" } : Jvm.MethodName)) ∈ tables_1 := mem1 133 rfl
theorem w134 : (Jvm.Cond.declares ({ cls := "CausalStable", name := "prune", desc := "(I)I" } : Jvm.MethodName)) ∈ tables_1 := mem1 134 rfl
theorem w135 : (Jvm.Cond.instanceMethod ({ cls := "CausalStable", name := "prune", desc := "(I)I" } : Jvm.MethodName)) ∈ tables_1 := mem1 135 rfl
theorem w136 : (Jvm.Cond.selects "CausalStable" ({ cls := "CausalStable", name := "prune", desc := "(I)I" } : Jvm.MethodName) ({ cls := "CausalStable", name := "prune", desc := "(I)I" } : Jvm.MethodName)) ∈ tables_1 := mem1 136 rfl
theorem w138 : (Jvm.Cond.methodLink "CausalStableL7" (29 : Nat) ({ cls := "CausalStable", name := "drop", desc := "(III)I" } : Jvm.MethodName)) ∈ tables_1 := mem1 138 rfl
theorem w139 : (Jvm.Cond.declares ({ cls := "CausalStable", name := "drop", desc := "(III)I" } : Jvm.MethodName)) ∈ tables_1 := mem1 139 rfl
theorem w140 : (Jvm.Cond.instanceMethod ({ cls := "CausalStable", name := "drop", desc := "(III)I" } : Jvm.MethodName)) ∈ tables_1 := mem1 140 rfl
theorem w141 : (Jvm.Cond.selects "CausalStable" ({ cls := "CausalStable", name := "drop", desc := "(III)I" } : Jvm.MethodName) ({ cls := "CausalStable", name := "drop", desc := "(III)I" } : Jvm.MethodName)) ∈ tables_1 := mem1 141 rfl
theorem w143 : (Jvm.Cond.methodLink "CausalStableL7" (32 : Nat) ({ cls := "CausalStable", name := "retransmit", desc := "(IIII)I" } : Jvm.MethodName)) ∈ tables_1 := mem1 143 rfl
theorem w144 : (Jvm.Cond.declares ({ cls := "CausalStable", name := "retransmit", desc := "(IIII)I" } : Jvm.MethodName)) ∈ tables_1 := mem1 144 rfl
theorem w145 : (Jvm.Cond.instanceMethod ({ cls := "CausalStable", name := "retransmit", desc := "(IIII)I" } : Jvm.MethodName)) ∈ tables_1 := mem1 145 rfl
theorem w146 : (Jvm.Cond.selects "CausalStable" ({ cls := "CausalStable", name := "retransmit", desc := "(IIII)I" } : Jvm.MethodName) ({ cls := "CausalStable", name := "retransmit", desc := "(IIII)I" } : Jvm.MethodName)) ∈ tables_1 := mem1 146 rfl
theorem w148 : (Jvm.Cond.methodLink "CausalStableL7" (36 : Nat) ({ cls := "CausalStable", name := "gossip", desc := "(II)I" } : Jvm.MethodName)) ∈ tables_1 := mem1 148 rfl
theorem w149 : (Jvm.Cond.declares ({ cls := "CausalStable", name := "gossip", desc := "(II)I" } : Jvm.MethodName)) ∈ tables_1 := mem1 149 rfl
theorem w150 : (Jvm.Cond.instanceMethod ({ cls := "CausalStable", name := "gossip", desc := "(II)I" } : Jvm.MethodName)) ∈ tables_1 := mem1 150 rfl
theorem w151 : (Jvm.Cond.selects "CausalStable" ({ cls := "CausalStable", name := "gossip", desc := "(II)I" } : Jvm.MethodName) ({ cls := "CausalStable", name := "gossip", desc := "(II)I" } : Jvm.MethodName)) ∈ tables_1 := mem1 151 rfl
theorem w153 : (Jvm.Cond.methodLink "CausalStable" (79 : Nat) ({ cls := "CausalStable", name := "isStable", desc := "(III)Z" } : Jvm.MethodName)) ∈ tables_1 := mem1 153 rfl
theorem w154 : (Jvm.Cond.instanceMethod ({ cls := "CausalStable", name := "isStable", desc := "(III)Z" } : Jvm.MethodName)) ∈ tables_1 := mem1 154 rfl
theorem w155 : (Jvm.Cond.privateMethod ({ cls := "CausalStable", name := "isStable", desc := "(III)Z" } : Jvm.MethodName)) ∈ tables_1 := mem1 155 rfl
theorem w157 : (Jvm.Cond.methodLink "CausalStable" (75 : Nat) ({ cls := "CausalStable", name := "cascade", desc := "(I)I" } : Jvm.MethodName)) ∈ tables_1 := mem1 157 rfl
theorem w158 : (Jvm.Cond.instanceMethod ({ cls := "CausalStable", name := "cascade", desc := "(I)I" } : Jvm.MethodName)) ∈ tables_1 := mem1 158 rfl
theorem w159 : (Jvm.Cond.privateMethod ({ cls := "CausalStable", name := "cascade", desc := "(I)I" } : Jvm.MethodName)) ∈ tables_1 := mem1 159 rfl
theorem w161 : (Jvm.Cond.methodLink "CausalStable" (60 : Nat) ({ cls := "CausalStable", name := "isDeliverable", desc := "(III)Z" } : Jvm.MethodName)) ∈ tables_1 := mem1 161 rfl
theorem w162 : (Jvm.Cond.instanceMethod ({ cls := "CausalStable", name := "isDeliverable", desc := "(III)Z" } : Jvm.MethodName)) ∈ tables_1 := mem1 162 rfl
theorem w163 : (Jvm.Cond.privateMethod ({ cls := "CausalStable", name := "isDeliverable", desc := "(III)Z" } : Jvm.MethodName)) ∈ tables_1 := mem1 163 rfl
theorem fS_0 : K.2.1[0]? = some ("n", "I") := rfl
theorem fS_1 : K.2.1[1]? = some ("cap", "I") := rfl
theorem fA_0 : K.2.2[0]? = some ("sentCount", .int, (8 : Int32)) := rfl
theorem fA_1 : K.2.2[1]? = some ("crashedFlag", .boolean, (8 : Int32)) := rfl
theorem fA_2 : K.2.2[2]? = some ("del", .int, (64 : Int32)) := rfl
theorem fA_3 : K.2.2[3]? = some ("msgState", .int, (512 : Int32)) := rfl
theorem fA_4 : K.2.2[4]? = some ("stampArr", .int, (512 : Int32)) := rfl
theorem fA_5 : K.2.2[5]? = some ("copyArr", .int, (512 : Int32)) := rfl
theorem fA_6 : K.2.2[6]? = some ("known", .int, (512 : Int32)) := rfl
theorem fA_7 : K.2.2[7]? = some ("list", .int, (512 : Int32)) := rfl
theorem fA_8 : K.2.2[8]? = some ("listLen", .int, (8 : Int32)) := rfl
theorem cb_m7 : (Int8.ofInt (-7)).toInt32 = (-7 : Int32) := by decide
theorem cb_m6 : (Int8.ofInt (-6)).toInt32 = (-6 : Int32) := by decide
theorem cb_m5 : (Int8.ofInt (-5)).toInt32 = (-5 : Int32) := by decide
theorem cb_m4 : (Int8.ofInt (-4)).toInt32 = (-4 : Int32) := by decide
theorem cb_m3 : (Int8.ofInt (-3)).toInt32 = (-3 : Int32) := by decide
theorem cb_m2 : (Int8.ofInt (-2)).toInt32 = (-2 : Int32) := by decide
theorem cb_8 : (Int8.ofInt 8).toInt32 = (8 : Int32) := by decide
theorem cb_9 : (Int8.ofInt 9).toInt32 = (9 : Int32) := by decide
theorem cb_12 : (Int8.ofInt 12).toInt32 = (12 : Int32) := by decide
theorem cb_13 : (Int8.ofInt 13).toInt32 = (13 : Int32) := by decide
theorem cb_15 : (Int8.ofInt 15).toInt32 = (15 : Int32) := by decide
theorem cb_16 : (Int8.ofInt 16).toInt32 = (16 : Int32) := by decide
theorem cb_27 : (Int8.ofInt 27).toInt32 = (27 : Int32) := by decide
theorem cb_36 : (Int8.ofInt 36).toInt32 = (36 : Int32) := by decide
theorem cb_39 : (Int8.ofInt 39).toInt32 = (39 : Int32) := by decide
theorem cb_64 : (Int8.ofInt 64).toInt32 = (64 : Int32) := by decide
theorem cb_65 : (Int8.ofInt 65).toInt32 = (65 : Int32) := by decide
theorem ci_m1 : Int32.ofInt (-1) = (-1 : Int32) := by decide
theorem ci_0 : Int32.ofInt 0 = (0 : Int32) := by decide
theorem ci_1 : Int32.ofInt 1 = (1 : Int32) := by decide
theorem ci_2 : Int32.ofInt 2 = (2 : Int32) := by decide
theorem ci_3 : Int32.ofInt 3 = (3 : Int32) := by decide
theorem ci_4 : Int32.ofInt 4 = (4 : Int32) := by decide
theorem cs_512 : (Int16.ofInt 512).toInt32 = (512 : Int32) := by decide
def B1 : Bdy := ((⟨"CausalStable", "<init>", "(II)V"⟩ : MethodName), prog_1_method_1_code, 5, none, ({ frames := 1, cells := 9, slots := 2648, locals := 12 } : Room))
theorem d1_0 : DAt B1 0 (.aload_n 0) 1 1 := ⟨by decide +kernel, rfl⟩
theorem d1_1 : DAt B1 1 (.invokespecial 1) 3 4 := ⟨by decide +kernel, rfl⟩
theorem d1_4 : DAt B1 4 (.aload_n 0) 1 5 := ⟨by decide +kernel, rfl⟩
theorem d1_5 : DAt B1 5 (.bipush 8) 2 7 := ⟨by decide +kernel, rfl⟩
theorem d1_7 : DAt B1 7 (.newarray .int) 2 9 := ⟨by decide +kernel, rfl⟩
theorem d1_9 : DAt B1 9 (.putfield 7) 3 12 := ⟨by decide +kernel, rfl⟩
theorem d1_12 : DAt B1 12 (.aload_n 0) 1 13 := ⟨by decide +kernel, rfl⟩
theorem d1_13 : DAt B1 13 (.bipush 8) 2 15 := ⟨by decide +kernel, rfl⟩
theorem d1_15 : DAt B1 15 (.newarray .boolean) 2 17 := ⟨by decide +kernel, rfl⟩
theorem d1_17 : DAt B1 17 (.putfield 13) 3 20 := ⟨by decide +kernel, rfl⟩
theorem d1_20 : DAt B1 20 (.aload_n 0) 1 21 := ⟨by decide +kernel, rfl⟩
theorem d1_21 : DAt B1 21 (.bipush 64) 2 23 := ⟨by decide +kernel, rfl⟩
theorem d1_23 : DAt B1 23 (.newarray .int) 2 25 := ⟨by decide +kernel, rfl⟩
theorem d1_25 : DAt B1 25 (.putfield 17) 3 28 := ⟨by decide +kernel, rfl⟩
theorem d1_28 : DAt B1 28 (.aload_n 0) 1 29 := ⟨by decide +kernel, rfl⟩
theorem d1_29 : DAt B1 29 (.sipush 512) 3 32 := ⟨by decide +kernel, rfl⟩
theorem d1_32 : DAt B1 32 (.newarray .int) 2 34 := ⟨by decide +kernel, rfl⟩
theorem d1_34 : DAt B1 34 (.putfield 20) 3 37 := ⟨by decide +kernel, rfl⟩
theorem d1_37 : DAt B1 37 (.aload_n 0) 1 38 := ⟨by decide +kernel, rfl⟩
theorem d1_38 : DAt B1 38 (.sipush 512) 3 41 := ⟨by decide +kernel, rfl⟩
theorem d1_41 : DAt B1 41 (.newarray .int) 2 43 := ⟨by decide +kernel, rfl⟩
theorem d1_43 : DAt B1 43 (.putfield 23) 3 46 := ⟨by decide +kernel, rfl⟩
theorem d1_46 : DAt B1 46 (.aload_n 0) 1 47 := ⟨by decide +kernel, rfl⟩
theorem d1_47 : DAt B1 47 (.sipush 512) 3 50 := ⟨by decide +kernel, rfl⟩
theorem d1_50 : DAt B1 50 (.newarray .int) 2 52 := ⟨by decide +kernel, rfl⟩
theorem d1_52 : DAt B1 52 (.putfield 26) 3 55 := ⟨by decide +kernel, rfl⟩
theorem d1_55 : DAt B1 55 (.aload_n 0) 1 56 := ⟨by decide +kernel, rfl⟩
theorem d1_56 : DAt B1 56 (.sipush 512) 3 59 := ⟨by decide +kernel, rfl⟩
theorem d1_59 : DAt B1 59 (.newarray .int) 2 61 := ⟨by decide +kernel, rfl⟩
theorem d1_61 : DAt B1 61 (.putfield 29) 3 64 := ⟨by decide +kernel, rfl⟩
theorem d1_64 : DAt B1 64 (.aload_n 0) 1 65 := ⟨by decide +kernel, rfl⟩
theorem d1_65 : DAt B1 65 (.sipush 512) 3 68 := ⟨by decide +kernel, rfl⟩
theorem d1_68 : DAt B1 68 (.newarray .int) 2 70 := ⟨by decide +kernel, rfl⟩
theorem d1_70 : DAt B1 70 (.putfield 32) 3 73 := ⟨by decide +kernel, rfl⟩
theorem d1_73 : DAt B1 73 (.aload_n 0) 1 74 := ⟨by decide +kernel, rfl⟩
theorem d1_74 : DAt B1 74 (.bipush 8) 2 76 := ⟨by decide +kernel, rfl⟩
theorem d1_76 : DAt B1 76 (.newarray .int) 2 78 := ⟨by decide +kernel, rfl⟩
theorem d1_78 : DAt B1 78 (.putfield 35) 3 81 := ⟨by decide +kernel, rfl⟩
theorem d1_81 : DAt B1 81 (.iload_n 1) 1 82 := ⟨by decide +kernel, rfl⟩
theorem d1_82 : DAt B1 82 (.istore_n 3) 1 83 := ⟨by decide +kernel, rfl⟩
theorem d1_83 : DAt B1 83 (.iload_n 3) 1 84 := ⟨by decide +kernel, rfl⟩
theorem d1_84 : DAt B1 84 (.iconst 2) 1 85 := ⟨by decide +kernel, rfl⟩
theorem d1_85 : DAt B1 85 (.if_icmp .ge 5) 3 88 := ⟨by decide +kernel, rfl⟩
theorem d1_88 : DAt B1 88 (.iconst 2) 1 89 := ⟨by decide +kernel, rfl⟩
theorem d1_89 : DAt B1 89 (.istore_n 3) 1 90 := ⟨by decide +kernel, rfl⟩
theorem d1_90 : DAt B1 90 (.iload_n 3) 1 91 := ⟨by decide +kernel, rfl⟩
theorem d1_91 : DAt B1 91 (.bipush 8) 2 93 := ⟨by decide +kernel, rfl⟩
theorem d1_93 : DAt B1 93 (.if_icmp .le 6) 3 96 := ⟨by decide +kernel, rfl⟩
theorem d1_96 : DAt B1 96 (.bipush 8) 2 98 := ⟨by decide +kernel, rfl⟩
theorem d1_98 : DAt B1 98 (.istore_n 3) 1 99 := ⟨by decide +kernel, rfl⟩
theorem d1_99 : DAt B1 99 (.aload_n 0) 1 100 := ⟨by decide +kernel, rfl⟩
theorem d1_100 : DAt B1 100 (.iload_n 3) 1 101 := ⟨by decide +kernel, rfl⟩
theorem d1_101 : DAt B1 101 (.putfield 38) 3 104 := ⟨by decide +kernel, rfl⟩
theorem d1_104 : DAt B1 104 (.iload_n 2) 1 105 := ⟨by decide +kernel, rfl⟩
theorem d1_105 : DAt B1 105 (.istore 4) 2 107 := ⟨by decide +kernel, rfl⟩
theorem d1_107 : DAt B1 107 (.iload 4) 2 109 := ⟨by decide +kernel, rfl⟩
theorem d1_109 : DAt B1 109 (.iconst 1) 1 110 := ⟨by decide +kernel, rfl⟩
theorem d1_110 : DAt B1 110 (.if_icmp .ge 6) 3 113 := ⟨by decide +kernel, rfl⟩
theorem d1_113 : DAt B1 113 (.iconst 1) 1 114 := ⟨by decide +kernel, rfl⟩
theorem d1_114 : DAt B1 114 (.istore 4) 2 116 := ⟨by decide +kernel, rfl⟩
theorem d1_116 : DAt B1 116 (.iload 4) 2 118 := ⟨by decide +kernel, rfl⟩
theorem d1_118 : DAt B1 118 (.bipush 8) 2 120 := ⟨by decide +kernel, rfl⟩
theorem d1_120 : DAt B1 120 (.if_icmp .le 7) 3 123 := ⟨by decide +kernel, rfl⟩
theorem d1_123 : DAt B1 123 (.bipush 8) 2 125 := ⟨by decide +kernel, rfl⟩
theorem d1_125 : DAt B1 125 (.istore 4) 2 127 := ⟨by decide +kernel, rfl⟩
theorem d1_127 : DAt B1 127 (.aload_n 0) 1 128 := ⟨by decide +kernel, rfl⟩
theorem d1_128 : DAt B1 128 (.iload 4) 2 130 := ⟨by decide +kernel, rfl⟩
theorem d1_130 : DAt B1 130 (.putfield 42) 3 133 := ⟨by decide +kernel, rfl⟩
theorem d1_133 : DAt B1 133 (.return_) 1 134 := ⟨by decide +kernel, rfl⟩
def B4 : Bdy := ((⟨"CausalStable", "exists", "(II)Z"⟩ : MethodName), prog_1_method_3_code, 3, (some .boolean), ({ frames := 0, cells := 0, slots := 0, locals := 0 } : Room))
theorem d4_0 : DAt B4 0 (.iload_n 1) 1 1 := ⟨by decide +kernel, rfl⟩
theorem d4_1 : DAt B4 1 (.ifCond .lt 30) 3 4 := ⟨by decide +kernel, rfl⟩
theorem d4_4 : DAt B4 4 (.iload_n 1) 1 5 := ⟨by decide +kernel, rfl⟩
theorem d4_5 : DAt B4 5 (.aload_n 0) 1 6 := ⟨by decide +kernel, rfl⟩
theorem d4_6 : DAt B4 6 (.getfield 38) 3 9 := ⟨by decide +kernel, rfl⟩
theorem d4_9 : DAt B4 9 (.if_icmp .ge 22) 3 12 := ⟨by decide +kernel, rfl⟩
theorem d4_12 : DAt B4 12 (.iload_n 2) 1 13 := ⟨by decide +kernel, rfl⟩
theorem d4_13 : DAt B4 13 (.iconst 1) 1 14 := ⟨by decide +kernel, rfl⟩
theorem d4_14 : DAt B4 14 (.if_icmp .lt 17) 3 17 := ⟨by decide +kernel, rfl⟩
theorem d4_17 : DAt B4 17 (.iload_n 2) 1 18 := ⟨by decide +kernel, rfl⟩
theorem d4_18 : DAt B4 18 (.aload_n 0) 1 19 := ⟨by decide +kernel, rfl⟩
theorem d4_19 : DAt B4 19 (.getfield 7) 3 22 := ⟨by decide +kernel, rfl⟩
theorem d4_22 : DAt B4 22 (.iload_n 1) 1 23 := ⟨by decide +kernel, rfl⟩
theorem d4_23 : DAt B4 23 (.iaload) 1 24 := ⟨by decide +kernel, rfl⟩
theorem d4_24 : DAt B4 24 (.if_icmp .gt 7) 3 27 := ⟨by decide +kernel, rfl⟩
theorem d4_27 : DAt B4 27 (.iconst 1) 1 28 := ⟨by decide +kernel, rfl⟩
theorem d4_28 : DAt B4 28 (.goto 4) 3 31 := ⟨by decide +kernel, rfl⟩
theorem d4_31 : DAt B4 31 (.iconst 0) 1 32 := ⟨by decide +kernel, rfl⟩
theorem d4_32 : DAt B4 32 (.ireturn) 1 33 := ⟨by decide +kernel, rfl⟩
def B7 : Bdy := ((⟨"CausalStable", "validProc", "(I)Z"⟩ : MethodName), prog_1_method_2_code, 2, (some .boolean), ({ frames := 0, cells := 0, slots := 0, locals := 0 } : Room))
theorem d7_0 : DAt B7 0 (.iload_n 1) 1 1 := ⟨by decide +kernel, rfl⟩
theorem d7_1 : DAt B7 1 (.ifCond .lt 15) 3 4 := ⟨by decide +kernel, rfl⟩
theorem d7_4 : DAt B7 4 (.iload_n 1) 1 5 := ⟨by decide +kernel, rfl⟩
theorem d7_5 : DAt B7 5 (.aload_n 0) 1 6 := ⟨by decide +kernel, rfl⟩
theorem d7_6 : DAt B7 6 (.getfield 38) 3 9 := ⟨by decide +kernel, rfl⟩
theorem d7_9 : DAt B7 9 (.if_icmp .ge 7) 3 12 := ⟨by decide +kernel, rfl⟩
theorem d7_12 : DAt B7 12 (.iconst 1) 1 13 := ⟨by decide +kernel, rfl⟩
theorem d7_13 : DAt B7 13 (.goto 4) 3 16 := ⟨by decide +kernel, rfl⟩
theorem d7_16 : DAt B7 16 (.iconst 0) 1 17 := ⟨by decide +kernel, rfl⟩
theorem d7_17 : DAt B7 17 (.ireturn) 1 18 := ⟨by decide +kernel, rfl⟩
def B15 : Bdy := ((⟨"CausalStable", "msgIndex", "(II)I"⟩ : MethodName), prog_1_method_4_code, 3, (some .int), ({ frames := 0, cells := 0, slots := 0, locals := 0 } : Room))
theorem d15_0 : DAt B15 0 (.iload_n 1) 1 1 := ⟨by decide +kernel, rfl⟩
theorem d15_1 : DAt B15 1 (.bipush 8) 2 3 := ⟨by decide +kernel, rfl⟩
theorem d15_3 : DAt B15 3 (.imul) 1 4 := ⟨by decide +kernel, rfl⟩
theorem d15_4 : DAt B15 4 (.iload_n 2) 1 5 := ⟨by decide +kernel, rfl⟩
theorem d15_5 : DAt B15 5 (.iadd) 1 6 := ⟨by decide +kernel, rfl⟩
theorem d15_6 : DAt B15 6 (.iconst 1) 1 7 := ⟨by decide +kernel, rfl⟩
theorem d15_7 : DAt B15 7 (.isub) 1 8 := ⟨by decide +kernel, rfl⟩
theorem d15_8 : DAt B15 8 (.ireturn) 1 9 := ⟨by decide +kernel, rfl⟩
def B3 : Bdy := ((⟨"CausalStable", "stamp", "(III)I"⟩ : MethodName), prog_1_method_22_code, 5, (some .int), ({ frames := 1, cells := 0, slots := 0, locals := 14 } : Room))
theorem d3_0 : DAt B3 0 (.aload_n 0) 1 1 := ⟨by decide +kernel, rfl⟩
theorem d3_1 : DAt B3 1 (.iload_n 1) 1 2 := ⟨by decide +kernel, rfl⟩
theorem d3_2 : DAt B3 2 (.iload_n 2) 1 3 := ⟨by decide +kernel, rfl⟩
theorem d3_3 : DAt B3 3 (.invokevirtual 52) 3 6 := ⟨by decide +kernel, rfl⟩
theorem d3_6 : DAt B3 6 (.ifCond .eq 11) 3 9 := ⟨by decide +kernel, rfl⟩
theorem d3_9 : DAt B3 9 (.aload_n 0) 1 10 := ⟨by decide +kernel, rfl⟩
theorem d3_10 : DAt B3 10 (.iload_n 3) 1 11 := ⟨by decide +kernel, rfl⟩
theorem d3_11 : DAt B3 11 (.invokevirtual 68) 3 14 := ⟨by decide +kernel, rfl⟩
theorem d3_14 : DAt B3 14 (.ifCond .ne 5) 3 17 := ⟨by decide +kernel, rfl⟩
theorem d3_17 : DAt B3 17 (.iconst (-1)) 1 18 := ⟨by decide +kernel, rfl⟩
theorem d3_18 : DAt B3 18 (.ireturn) 1 19 := ⟨by decide +kernel, rfl⟩
theorem d3_19 : DAt B3 19 (.aload_n 0) 1 20 := ⟨by decide +kernel, rfl⟩
theorem d3_20 : DAt B3 20 (.iload_n 1) 1 21 := ⟨by decide +kernel, rfl⟩
theorem d3_21 : DAt B3 21 (.iload_n 2) 1 22 := ⟨by decide +kernel, rfl⟩
theorem d3_22 : DAt B3 22 (.invokevirtual 56) 3 25 := ⟨by decide +kernel, rfl⟩
theorem d3_25 : DAt B3 25 (.istore 4) 2 27 := ⟨by decide +kernel, rfl⟩
theorem d3_27 : DAt B3 27 (.aload_n 0) 1 28 := ⟨by decide +kernel, rfl⟩
theorem d3_28 : DAt B3 28 (.getfield 23) 3 31 := ⟨by decide +kernel, rfl⟩
theorem d3_31 : DAt B3 31 (.iload 4) 2 33 := ⟨by decide +kernel, rfl⟩
theorem d3_33 : DAt B3 33 (.bipush 8) 2 35 := ⟨by decide +kernel, rfl⟩
theorem d3_35 : DAt B3 35 (.imul) 1 36 := ⟨by decide +kernel, rfl⟩
theorem d3_36 : DAt B3 36 (.iload_n 3) 1 37 := ⟨by decide +kernel, rfl⟩
theorem d3_37 : DAt B3 37 (.iadd) 1 38 := ⟨by decide +kernel, rfl⟩
theorem d3_38 : DAt B3 38 (.iaload) 1 39 := ⟨by decide +kernel, rfl⟩
theorem d3_39 : DAt B3 39 (.ireturn) 1 40 := ⟨by decide +kernel, rfl⟩
def B18 : Bdy := ((⟨"CausalStable", "copyIndex", "(III)I"⟩ : MethodName), prog_1_method_6_code, 4, (some .int), ({ frames := 0, cells := 0, slots := 0, locals := 0 } : Room))
theorem d18_0 : DAt B18 0 (.iload_n 1) 1 1 := ⟨by decide +kernel, rfl⟩
theorem d18_1 : DAt B18 1 (.bipush 8) 2 3 := ⟨by decide +kernel, rfl⟩
theorem d18_3 : DAt B18 3 (.imul) 1 4 := ⟨by decide +kernel, rfl⟩
theorem d18_4 : DAt B18 4 (.iload_n 2) 1 5 := ⟨by decide +kernel, rfl⟩
theorem d18_5 : DAt B18 5 (.iadd) 1 6 := ⟨by decide +kernel, rfl⟩
theorem d18_6 : DAt B18 6 (.iconst 1) 1 7 := ⟨by decide +kernel, rfl⟩
theorem d18_7 : DAt B18 7 (.isub) 1 8 := ⟨by decide +kernel, rfl⟩
theorem d18_8 : DAt B18 8 (.bipush 8) 2 10 := ⟨by decide +kernel, rfl⟩
theorem d18_10 : DAt B18 10 (.imul) 1 11 := ⟨by decide +kernel, rfl⟩
theorem d18_11 : DAt B18 11 (.iload_n 3) 1 12 := ⟨by decide +kernel, rfl⟩
theorem d18_12 : DAt B18 12 (.iadd) 1 13 := ⟨by decide +kernel, rfl⟩
theorem d18_13 : DAt B18 13 (.ireturn) 1 14 := ⟨by decide +kernel, rfl⟩
def B5 : Bdy := ((⟨"CausalStable", "copies", "(III)I"⟩ : MethodName), prog_1_method_23_code, 5, (some .int), ({ frames := 1, cells := 0, slots := 0, locals := 15 } : Room))
theorem d5_0 : DAt B5 0 (.aload_n 0) 1 1 := ⟨by decide +kernel, rfl⟩
theorem d5_1 : DAt B5 1 (.iload_n 1) 1 2 := ⟨by decide +kernel, rfl⟩
theorem d5_2 : DAt B5 2 (.iload_n 2) 1 3 := ⟨by decide +kernel, rfl⟩
theorem d5_3 : DAt B5 3 (.invokevirtual 52) 3 6 := ⟨by decide +kernel, rfl⟩
theorem d5_6 : DAt B5 6 (.ifCond .eq 11) 3 9 := ⟨by decide +kernel, rfl⟩
theorem d5_9 : DAt B5 9 (.aload_n 0) 1 10 := ⟨by decide +kernel, rfl⟩
theorem d5_10 : DAt B5 10 (.iload_n 3) 1 11 := ⟨by decide +kernel, rfl⟩
theorem d5_11 : DAt B5 11 (.invokevirtual 68) 3 14 := ⟨by decide +kernel, rfl⟩
theorem d5_14 : DAt B5 14 (.ifCond .ne 5) 3 17 := ⟨by decide +kernel, rfl⟩
theorem d5_17 : DAt B5 17 (.iconst (-1)) 1 18 := ⟨by decide +kernel, rfl⟩
theorem d5_18 : DAt B5 18 (.ireturn) 1 19 := ⟨by decide +kernel, rfl⟩
theorem d5_19 : DAt B5 19 (.aload_n 0) 1 20 := ⟨by decide +kernel, rfl⟩
theorem d5_20 : DAt B5 20 (.iload_n 1) 1 21 := ⟨by decide +kernel, rfl⟩
theorem d5_21 : DAt B5 21 (.iload_n 2) 1 22 := ⟨by decide +kernel, rfl⟩
theorem d5_22 : DAt B5 22 (.iload_n 3) 1 23 := ⟨by decide +kernel, rfl⟩
theorem d5_23 : DAt B5 23 (.invokevirtual 72) 3 26 := ⟨by decide +kernel, rfl⟩
theorem d5_26 : DAt B5 26 (.istore 4) 2 28 := ⟨by decide +kernel, rfl⟩
theorem d5_28 : DAt B5 28 (.aload_n 0) 1 29 := ⟨by decide +kernel, rfl⟩
theorem d5_29 : DAt B5 29 (.getfield 26) 3 32 := ⟨by decide +kernel, rfl⟩
theorem d5_32 : DAt B5 32 (.iload 4) 2 34 := ⟨by decide +kernel, rfl⟩
theorem d5_34 : DAt B5 34 (.iaload) 1 35 := ⟨by decide +kernel, rfl⟩
theorem d5_35 : DAt B5 35 (.ireturn) 1 36 := ⟨by decide +kernel, rfl⟩
def B17 : Bdy := ((⟨"CausalStable", "stateIndex", "(III)I"⟩ : MethodName), prog_1_method_5_code, 4, (some .int), ({ frames := 0, cells := 0, slots := 0, locals := 0 } : Room))
theorem d17_0 : DAt B17 0 (.iload_n 1) 1 1 := ⟨by decide +kernel, rfl⟩
theorem d17_1 : DAt B17 1 (.bipush 64) 2 3 := ⟨by decide +kernel, rfl⟩
theorem d17_3 : DAt B17 3 (.imul) 1 4 := ⟨by decide +kernel, rfl⟩
theorem d17_4 : DAt B17 4 (.iload_n 2) 1 5 := ⟨by decide +kernel, rfl⟩
theorem d17_5 : DAt B17 5 (.bipush 8) 2 7 := ⟨by decide +kernel, rfl⟩
theorem d17_7 : DAt B17 7 (.imul) 1 8 := ⟨by decide +kernel, rfl⟩
theorem d17_8 : DAt B17 8 (.iadd) 1 9 := ⟨by decide +kernel, rfl⟩
theorem d17_9 : DAt B17 9 (.iload_n 3) 1 10 := ⟨by decide +kernel, rfl⟩
theorem d17_10 : DAt B17 10 (.iadd) 1 11 := ⟨by decide +kernel, rfl⟩
theorem d17_11 : DAt B17 11 (.iconst 1) 1 12 := ⟨by decide +kernel, rfl⟩
theorem d17_12 : DAt B17 12 (.isub) 1 13 := ⟨by decide +kernel, rfl⟩
theorem d17_13 : DAt B17 13 (.ireturn) 1 14 := ⟨by decide +kernel, rfl⟩
def B6 : Bdy := ((⟨"CausalStable", "state", "(III)I"⟩ : MethodName), prog_1_method_24_code, 5, (some .int), ({ frames := 1, cells := 0, slots := 0, locals := 15 } : Room))
theorem d6_0 : DAt B6 0 (.aload_n 0) 1 1 := ⟨by decide +kernel, rfl⟩
theorem d6_1 : DAt B6 1 (.iload_n 1) 1 2 := ⟨by decide +kernel, rfl⟩
theorem d6_2 : DAt B6 2 (.invokevirtual 68) 3 5 := ⟨by decide +kernel, rfl⟩
theorem d6_5 : DAt B6 5 (.ifCond .eq 12) 3 8 := ⟨by decide +kernel, rfl⟩
theorem d6_8 : DAt B6 8 (.aload_n 0) 1 9 := ⟨by decide +kernel, rfl⟩
theorem d6_9 : DAt B6 9 (.iload_n 2) 1 10 := ⟨by decide +kernel, rfl⟩
theorem d6_10 : DAt B6 10 (.iload_n 3) 1 11 := ⟨by decide +kernel, rfl⟩
theorem d6_11 : DAt B6 11 (.invokevirtual 52) 3 14 := ⟨by decide +kernel, rfl⟩
theorem d6_14 : DAt B6 14 (.ifCond .ne 5) 3 17 := ⟨by decide +kernel, rfl⟩
theorem d6_17 : DAt B6 17 (.iconst (-1)) 1 18 := ⟨by decide +kernel, rfl⟩
theorem d6_18 : DAt B6 18 (.ireturn) 1 19 := ⟨by decide +kernel, rfl⟩
theorem d6_19 : DAt B6 19 (.aload_n 0) 1 20 := ⟨by decide +kernel, rfl⟩
theorem d6_20 : DAt B6 20 (.iload_n 1) 1 21 := ⟨by decide +kernel, rfl⟩
theorem d6_21 : DAt B6 21 (.iload_n 2) 1 22 := ⟨by decide +kernel, rfl⟩
theorem d6_22 : DAt B6 22 (.iload_n 3) 1 23 := ⟨by decide +kernel, rfl⟩
theorem d6_23 : DAt B6 23 (.invokevirtual 45) 3 26 := ⟨by decide +kernel, rfl⟩
theorem d6_26 : DAt B6 26 (.istore 4) 2 28 := ⟨by decide +kernel, rfl⟩
theorem d6_28 : DAt B6 28 (.aload_n 0) 1 29 := ⟨by decide +kernel, rfl⟩
theorem d6_29 : DAt B6 29 (.getfield 20) 3 32 := ⟨by decide +kernel, rfl⟩
theorem d6_32 : DAt B6 32 (.iload 4) 2 34 := ⟨by decide +kernel, rfl⟩
theorem d6_34 : DAt B6 34 (.iaload) 1 35 := ⟨by decide +kernel, rfl⟩
theorem d6_35 : DAt B6 35 (.ireturn) 1 36 := ⟨by decide +kernel, rfl⟩
def B9 : Bdy := ((⟨"CausalStable", "knownIndex", "(III)I"⟩ : MethodName), prog_1_method_7_code, 4, (some .int), ({ frames := 0, cells := 0, slots := 0, locals := 0 } : Room))
theorem d9_0 : DAt B9 0 (.iload_n 1) 1 1 := ⟨by decide +kernel, rfl⟩
theorem d9_1 : DAt B9 1 (.bipush 64) 2 3 := ⟨by decide +kernel, rfl⟩
theorem d9_3 : DAt B9 3 (.imul) 1 4 := ⟨by decide +kernel, rfl⟩
theorem d9_4 : DAt B9 4 (.iload_n 2) 1 5 := ⟨by decide +kernel, rfl⟩
theorem d9_5 : DAt B9 5 (.bipush 8) 2 7 := ⟨by decide +kernel, rfl⟩
theorem d9_7 : DAt B9 7 (.imul) 1 8 := ⟨by decide +kernel, rfl⟩
theorem d9_8 : DAt B9 8 (.iadd) 1 9 := ⟨by decide +kernel, rfl⟩
theorem d9_9 : DAt B9 9 (.iload_n 3) 1 10 := ⟨by decide +kernel, rfl⟩
theorem d9_10 : DAt B9 10 (.iadd) 1 11 := ⟨by decide +kernel, rfl⟩
theorem d9_11 : DAt B9 11 (.ireturn) 1 12 := ⟨by decide +kernel, rfl⟩
def B8 : Bdy := ((⟨"CausalStable", "known", "(III)I"⟩ : MethodName), prog_1_method_27_code, 5, (some .int), ({ frames := 1, cells := 0, slots := 0, locals := 15 } : Room))
theorem d8_0 : DAt B8 0 (.aload_n 0) 1 1 := ⟨by decide +kernel, rfl⟩
theorem d8_1 : DAt B8 1 (.iload_n 1) 1 2 := ⟨by decide +kernel, rfl⟩
theorem d8_2 : DAt B8 2 (.invokevirtual 68) 3 5 := ⟨by decide +kernel, rfl⟩
theorem d8_5 : DAt B8 5 (.ifCond .eq 19) 3 8 := ⟨by decide +kernel, rfl⟩
theorem d8_8 : DAt B8 8 (.aload_n 0) 1 9 := ⟨by decide +kernel, rfl⟩
theorem d8_9 : DAt B8 9 (.iload_n 2) 1 10 := ⟨by decide +kernel, rfl⟩
theorem d8_10 : DAt B8 10 (.invokevirtual 68) 3 13 := ⟨by decide +kernel, rfl⟩
theorem d8_13 : DAt B8 13 (.ifCond .eq 11) 3 16 := ⟨by decide +kernel, rfl⟩
theorem d8_16 : DAt B8 16 (.aload_n 0) 1 17 := ⟨by decide +kernel, rfl⟩
theorem d8_17 : DAt B8 17 (.iload_n 3) 1 18 := ⟨by decide +kernel, rfl⟩
theorem d8_18 : DAt B8 18 (.invokevirtual 68) 3 21 := ⟨by decide +kernel, rfl⟩
theorem d8_21 : DAt B8 21 (.ifCond .ne 5) 3 24 := ⟨by decide +kernel, rfl⟩
theorem d8_24 : DAt B8 24 (.iconst (-1)) 1 25 := ⟨by decide +kernel, rfl⟩
theorem d8_25 : DAt B8 25 (.ireturn) 1 26 := ⟨by decide +kernel, rfl⟩
theorem d8_26 : DAt B8 26 (.aload_n 0) 1 27 := ⟨by decide +kernel, rfl⟩
theorem d8_27 : DAt B8 27 (.iload_n 1) 1 28 := ⟨by decide +kernel, rfl⟩
theorem d8_28 : DAt B8 28 (.iload_n 2) 1 29 := ⟨by decide +kernel, rfl⟩
theorem d8_29 : DAt B8 29 (.iload_n 3) 1 30 := ⟨by decide +kernel, rfl⟩
theorem d8_30 : DAt B8 30 (.invokevirtual 49) 3 33 := ⟨by decide +kernel, rfl⟩
theorem d8_33 : DAt B8 33 (.istore 4) 2 35 := ⟨by decide +kernel, rfl⟩
theorem d8_35 : DAt B8 35 (.aload_n 0) 1 36 := ⟨by decide +kernel, rfl⟩
theorem d8_36 : DAt B8 36 (.getfield 29) 3 39 := ⟨by decide +kernel, rfl⟩
theorem d8_39 : DAt B8 39 (.iload 4) 2 41 := ⟨by decide +kernel, rfl⟩
theorem d8_41 : DAt B8 41 (.iaload) 1 42 := ⟨by decide +kernel, rfl⟩
theorem d8_42 : DAt B8 42 (.ireturn) 1 43 := ⟨by decide +kernel, rfl⟩
def B10 : Bdy := ((⟨"CausalStable", "deliveredAt", "(II)I"⟩ : MethodName), prog_1_method_26_code, 3, (some .int), ({ frames := 1, cells := 0, slots := 0, locals := 13 } : Room))
theorem d10_0 : DAt B10 0 (.aload_n 0) 1 1 := ⟨by decide +kernel, rfl⟩
theorem d10_1 : DAt B10 1 (.iload_n 1) 1 2 := ⟨by decide +kernel, rfl⟩
theorem d10_2 : DAt B10 2 (.invokevirtual 68) 3 5 := ⟨by decide +kernel, rfl⟩
theorem d10_5 : DAt B10 5 (.ifCond .ne 5) 3 8 := ⟨by decide +kernel, rfl⟩
theorem d10_8 : DAt B10 8 (.iconst (-1)) 1 9 := ⟨by decide +kernel, rfl⟩
theorem d10_9 : DAt B10 9 (.ireturn) 1 10 := ⟨by decide +kernel, rfl⟩
theorem d10_10 : DAt B10 10 (.iload_n 2) 1 11 := ⟨by decide +kernel, rfl⟩
theorem d10_11 : DAt B10 11 (.ifCond .lt 19) 3 14 := ⟨by decide +kernel, rfl⟩
theorem d10_14 : DAt B10 14 (.iload_n 2) 1 15 := ⟨by decide +kernel, rfl⟩
theorem d10_15 : DAt B10 15 (.aload_n 0) 1 16 := ⟨by decide +kernel, rfl⟩
theorem d10_16 : DAt B10 16 (.getfield 35) 3 19 := ⟨by decide +kernel, rfl⟩
theorem d10_19 : DAt B10 19 (.iload_n 1) 1 20 := ⟨by decide +kernel, rfl⟩
theorem d10_20 : DAt B10 20 (.iaload) 1 21 := ⟨by decide +kernel, rfl⟩
theorem d10_21 : DAt B10 21 (.if_icmp .ge 9) 3 24 := ⟨by decide +kernel, rfl⟩
theorem d10_24 : DAt B10 24 (.iload_n 2) 1 25 := ⟨by decide +kernel, rfl⟩
theorem d10_25 : DAt B10 25 (.bipush 64) 2 27 := ⟨by decide +kernel, rfl⟩
theorem d10_27 : DAt B10 27 (.if_icmp .lt 5) 3 30 := ⟨by decide +kernel, rfl⟩
theorem d10_30 : DAt B10 30 (.iconst (-1)) 1 31 := ⟨by decide +kernel, rfl⟩
theorem d10_31 : DAt B10 31 (.ireturn) 1 32 := ⟨by decide +kernel, rfl⟩
theorem d10_32 : DAt B10 32 (.aload_n 0) 1 33 := ⟨by decide +kernel, rfl⟩
theorem d10_33 : DAt B10 33 (.getfield 32) 3 36 := ⟨by decide +kernel, rfl⟩
theorem d10_36 : DAt B10 36 (.iload_n 1) 1 37 := ⟨by decide +kernel, rfl⟩
theorem d10_37 : DAt B10 37 (.bipush 64) 2 39 := ⟨by decide +kernel, rfl⟩
theorem d10_39 : DAt B10 39 (.imul) 1 40 := ⟨by decide +kernel, rfl⟩
theorem d10_40 : DAt B10 40 (.iload_n 2) 1 41 := ⟨by decide +kernel, rfl⟩
theorem d10_41 : DAt B10 41 (.iadd) 1 42 := ⟨by decide +kernel, rfl⟩
theorem d10_42 : DAt B10 42 (.iaload) 1 43 := ⟨by decide +kernel, rfl⟩
theorem d10_43 : DAt B10 43 (.ireturn) 1 44 := ⟨by decide +kernel, rfl⟩
def B11 : Bdy := ((⟨"CausalStable", "delivered", "(II)I"⟩ : MethodName), prog_1_method_25_code, 3, (some .int), ({ frames := 1, cells := 0, slots := 0, locals := 13 } : Room))
theorem d11_0 : DAt B11 0 (.aload_n 0) 1 1 := ⟨by decide +kernel, rfl⟩
theorem d11_1 : DAt B11 1 (.iload_n 1) 1 2 := ⟨by decide +kernel, rfl⟩
theorem d11_2 : DAt B11 2 (.invokevirtual 68) 3 5 := ⟨by decide +kernel, rfl⟩
theorem d11_5 : DAt B11 5 (.ifCond .eq 11) 3 8 := ⟨by decide +kernel, rfl⟩
theorem d11_8 : DAt B11 8 (.aload_n 0) 1 9 := ⟨by decide +kernel, rfl⟩
theorem d11_9 : DAt B11 9 (.iload_n 2) 1 10 := ⟨by decide +kernel, rfl⟩
theorem d11_10 : DAt B11 10 (.invokevirtual 68) 3 13 := ⟨by decide +kernel, rfl⟩
theorem d11_13 : DAt B11 13 (.ifCond .ne 5) 3 16 := ⟨by decide +kernel, rfl⟩
theorem d11_16 : DAt B11 16 (.iconst (-1)) 1 17 := ⟨by decide +kernel, rfl⟩
theorem d11_17 : DAt B11 17 (.ireturn) 1 18 := ⟨by decide +kernel, rfl⟩
theorem d11_18 : DAt B11 18 (.aload_n 0) 1 19 := ⟨by decide +kernel, rfl⟩
theorem d11_19 : DAt B11 19 (.getfield 17) 3 22 := ⟨by decide +kernel, rfl⟩
theorem d11_22 : DAt B11 22 (.iload_n 1) 1 23 := ⟨by decide +kernel, rfl⟩
theorem d11_23 : DAt B11 23 (.bipush 8) 2 25 := ⟨by decide +kernel, rfl⟩
theorem d11_25 : DAt B11 25 (.imul) 1 26 := ⟨by decide +kernel, rfl⟩
theorem d11_26 : DAt B11 26 (.iload_n 2) 1 27 := ⟨by decide +kernel, rfl⟩
theorem d11_27 : DAt B11 27 (.iadd) 1 28 := ⟨by decide +kernel, rfl⟩
theorem d11_28 : DAt B11 28 (.iaload) 1 29 := ⟨by decide +kernel, rfl⟩
theorem d11_29 : DAt B11 29 (.ireturn) 1 30 := ⟨by decide +kernel, rfl⟩
def B12 : Bdy := ((⟨"CausalStable", "sent", "(I)I"⟩ : MethodName), prog_1_method_21_code, 2, (some .int), ({ frames := 1, cells := 0, slots := 0, locals := 13 } : Room))
theorem d12_0 : DAt B12 0 (.aload_n 0) 1 1 := ⟨by decide +kernel, rfl⟩
theorem d12_1 : DAt B12 1 (.iload_n 1) 1 2 := ⟨by decide +kernel, rfl⟩
theorem d12_2 : DAt B12 2 (.invokevirtual 68) 3 5 := ⟨by decide +kernel, rfl⟩
theorem d12_5 : DAt B12 5 (.ifCond .ne 5) 3 8 := ⟨by decide +kernel, rfl⟩
theorem d12_8 : DAt B12 8 (.iconst (-1)) 1 9 := ⟨by decide +kernel, rfl⟩
theorem d12_9 : DAt B12 9 (.ireturn) 1 10 := ⟨by decide +kernel, rfl⟩
theorem d12_10 : DAt B12 10 (.aload_n 0) 1 11 := ⟨by decide +kernel, rfl⟩
theorem d12_11 : DAt B12 11 (.getfield 7) 3 14 := ⟨by decide +kernel, rfl⟩
theorem d12_14 : DAt B12 14 (.iload_n 1) 1 15 := ⟨by decide +kernel, rfl⟩
theorem d12_15 : DAt B12 15 (.iaload) 1 16 := ⟨by decide +kernel, rfl⟩
theorem d12_16 : DAt B12 16 (.ireturn) 1 17 := ⟨by decide +kernel, rfl⟩
def B13 : Bdy := ((⟨"CausalStable", "isCrashed", "(I)Z"⟩ : MethodName), prog_1_method_28_code, 2, (some .boolean), ({ frames := 1, cells := 0, slots := 0, locals := 13 } : Room))
theorem d13_0 : DAt B13 0 (.aload_n 0) 1 1 := ⟨by decide +kernel, rfl⟩
theorem d13_1 : DAt B13 1 (.iload_n 1) 1 2 := ⟨by decide +kernel, rfl⟩
theorem d13_2 : DAt B13 2 (.invokevirtual 68) 3 5 := ⟨by decide +kernel, rfl⟩
theorem d13_5 : DAt B13 5 (.ifCond .ne 5) 3 8 := ⟨by decide +kernel, rfl⟩
theorem d13_8 : DAt B13 8 (.iconst 0) 1 9 := ⟨by decide +kernel, rfl⟩
theorem d13_9 : DAt B13 9 (.ireturn) 1 10 := ⟨by decide +kernel, rfl⟩
theorem d13_10 : DAt B13 10 (.aload_n 0) 1 11 := ⟨by decide +kernel, rfl⟩
theorem d13_11 : DAt B13 11 (.getfield 13) 3 14 := ⟨by decide +kernel, rfl⟩
theorem d13_14 : DAt B13 14 (.iload_n 1) 1 15 := ⟨by decide +kernel, rfl⟩
theorem d13_15 : DAt B13 15 (.baload) 1 16 := ⟨by decide +kernel, rfl⟩
theorem d13_16 : DAt B13 16 (.ireturn) 1 17 := ⟨by decide +kernel, rfl⟩
def B2 : Bdy := ((⟨"CausalStableL7", "fp", "(LCausalStable;)J"⟩ : MethodName), method_3_code, 7, (some .long), ({ frames := 2, cells := 0, slots := 0, locals := 33 } : Room))
theorem d2_0 : DAt B2 0 (.ldc2_w 46) 3 3 := ⟨by decide +kernel, rfl⟩
theorem d2_3 : DAt B2 3 (.lstore_n 1) 1 4 := ⟨by decide +kernel, rfl⟩
theorem d2_4 : DAt B2 4 (.iconst 0) 1 5 := ⟨by decide +kernel, rfl⟩
theorem d2_5 : DAt B2 5 (.istore_n 3) 1 6 := ⟨by decide +kernel, rfl⟩
theorem d2_6 : DAt B2 6 (.iload_n 3) 1 7 := ⟨by decide +kernel, rfl⟩
theorem d2_7 : DAt B2 7 (.bipush 36) 2 9 := ⟨by decide +kernel, rfl⟩
theorem d2_9 : DAt B2 9 (.if_icmp .ge 83) 3 12 := ⟨by decide +kernel, rfl⟩
theorem d2_12 : DAt B2 12 (.iload_n 3) 1 13 := ⟨by decide +kernel, rfl⟩
theorem d2_13 : DAt B2 13 (.bipush 12) 2 15 := ⟨by decide +kernel, rfl⟩
theorem d2_15 : DAt B2 15 (.idiv) 1 16 := ⟨by decide +kernel, rfl⟩
theorem d2_16 : DAt B2 16 (.istore 4) 2 18 := ⟨by decide +kernel, rfl⟩
theorem d2_18 : DAt B2 18 (.iload_n 3) 1 19 := ⟨by decide +kernel, rfl⟩
theorem d2_19 : DAt B2 19 (.iconst 3) 1 20 := ⟨by decide +kernel, rfl⟩
theorem d2_20 : DAt B2 20 (.idiv) 1 21 := ⟨by decide +kernel, rfl⟩
theorem d2_21 : DAt B2 21 (.iconst 4) 1 22 := ⟨by decide +kernel, rfl⟩
theorem d2_22 : DAt B2 22 (.irem) 1 23 := ⟨by decide +kernel, rfl⟩
theorem d2_23 : DAt B2 23 (.iconst 1) 1 24 := ⟨by decide +kernel, rfl⟩
theorem d2_24 : DAt B2 24 (.iadd) 1 25 := ⟨by decide +kernel, rfl⟩
theorem d2_25 : DAt B2 25 (.istore 5) 2 27 := ⟨by decide +kernel, rfl⟩
theorem d2_27 : DAt B2 27 (.iload_n 3) 1 28 := ⟨by decide +kernel, rfl⟩
theorem d2_28 : DAt B2 28 (.iconst 3) 1 29 := ⟨by decide +kernel, rfl⟩
theorem d2_29 : DAt B2 29 (.irem) 1 30 := ⟨by decide +kernel, rfl⟩
theorem d2_30 : DAt B2 30 (.istore 6) 2 32 := ⟨by decide +kernel, rfl⟩
theorem d2_32 : DAt B2 32 (.lload_n 1) 1 33 := ⟨by decide +kernel, rfl⟩
theorem d2_33 : DAt B2 33 (.ldc2_w 48) 3 36 := ⟨by decide +kernel, rfl⟩
theorem d2_36 : DAt B2 36 (.lmul) 1 37 := ⟨by decide +kernel, rfl⟩
theorem d2_37 : DAt B2 37 (.aload_n 0) 1 38 := ⟨by decide +kernel, rfl⟩
theorem d2_38 : DAt B2 38 (.iload 4) 2 40 := ⟨by decide +kernel, rfl⟩
theorem d2_40 : DAt B2 40 (.iload 5) 2 42 := ⟨by decide +kernel, rfl⟩
theorem d2_42 : DAt B2 42 (.iload 6) 2 44 := ⟨by decide +kernel, rfl⟩
theorem d2_44 : DAt B2 44 (.invokevirtual 50) 3 47 := ⟨by decide +kernel, rfl⟩
theorem d2_47 : DAt B2 47 (.i2l) 1 48 := ⟨by decide +kernel, rfl⟩
theorem d2_48 : DAt B2 48 (.ladd) 1 49 := ⟨by decide +kernel, rfl⟩
theorem d2_49 : DAt B2 49 (.lstore_n 1) 1 50 := ⟨by decide +kernel, rfl⟩
theorem d2_50 : DAt B2 50 (.lload_n 1) 1 51 := ⟨by decide +kernel, rfl⟩
theorem d2_51 : DAt B2 51 (.ldc2_w 48) 3 54 := ⟨by decide +kernel, rfl⟩
theorem d2_54 : DAt B2 54 (.lmul) 1 55 := ⟨by decide +kernel, rfl⟩
theorem d2_55 : DAt B2 55 (.aload_n 0) 1 56 := ⟨by decide +kernel, rfl⟩
theorem d2_56 : DAt B2 56 (.iload 4) 2 58 := ⟨by decide +kernel, rfl⟩
theorem d2_58 : DAt B2 58 (.iload 5) 2 60 := ⟨by decide +kernel, rfl⟩
theorem d2_60 : DAt B2 60 (.iload 6) 2 62 := ⟨by decide +kernel, rfl⟩
theorem d2_62 : DAt B2 62 (.invokevirtual 53) 3 65 := ⟨by decide +kernel, rfl⟩
theorem d2_65 : DAt B2 65 (.i2l) 1 66 := ⟨by decide +kernel, rfl⟩
theorem d2_66 : DAt B2 66 (.ladd) 1 67 := ⟨by decide +kernel, rfl⟩
theorem d2_67 : DAt B2 67 (.lstore_n 1) 1 68 := ⟨by decide +kernel, rfl⟩
theorem d2_68 : DAt B2 68 (.lload_n 1) 1 69 := ⟨by decide +kernel, rfl⟩
theorem d2_69 : DAt B2 69 (.ldc2_w 48) 3 72 := ⟨by decide +kernel, rfl⟩
theorem d2_72 : DAt B2 72 (.lmul) 1 73 := ⟨by decide +kernel, rfl⟩
theorem d2_73 : DAt B2 73 (.aload_n 0) 1 74 := ⟨by decide +kernel, rfl⟩
theorem d2_74 : DAt B2 74 (.iload 6) 2 76 := ⟨by decide +kernel, rfl⟩
theorem d2_76 : DAt B2 76 (.iload 4) 2 78 := ⟨by decide +kernel, rfl⟩
theorem d2_78 : DAt B2 78 (.iload 5) 2 80 := ⟨by decide +kernel, rfl⟩
theorem d2_80 : DAt B2 80 (.invokevirtual 56) 3 83 := ⟨by decide +kernel, rfl⟩
theorem d2_83 : DAt B2 83 (.i2l) 1 84 := ⟨by decide +kernel, rfl⟩
theorem d2_84 : DAt B2 84 (.ladd) 1 85 := ⟨by decide +kernel, rfl⟩
theorem d2_85 : DAt B2 85 (.lstore_n 1) 1 86 := ⟨by decide +kernel, rfl⟩
theorem d2_86 : DAt B2 86 (.iinc 3 1) 3 89 := ⟨by decide +kernel, rfl⟩
theorem d2_89 : DAt B2 89 (.goto (-83)) 3 92 := ⟨by decide +kernel, rfl⟩
theorem d2_92 : DAt B2 92 (.iconst 0) 1 93 := ⟨by decide +kernel, rfl⟩
theorem d2_93 : DAt B2 93 (.istore_n 3) 1 94 := ⟨by decide +kernel, rfl⟩
theorem d2_94 : DAt B2 94 (.iload_n 3) 1 95 := ⟨by decide +kernel, rfl⟩
theorem d2_95 : DAt B2 95 (.bipush 27) 2 97 := ⟨by decide +kernel, rfl⟩
theorem d2_97 : DAt B2 97 (.if_icmp .ge 33) 3 100 := ⟨by decide +kernel, rfl⟩
theorem d2_100 : DAt B2 100 (.lload_n 1) 1 101 := ⟨by decide +kernel, rfl⟩
theorem d2_101 : DAt B2 101 (.ldc2_w 48) 3 104 := ⟨by decide +kernel, rfl⟩
theorem d2_104 : DAt B2 104 (.lmul) 1 105 := ⟨by decide +kernel, rfl⟩
theorem d2_105 : DAt B2 105 (.aload_n 0) 1 106 := ⟨by decide +kernel, rfl⟩
theorem d2_106 : DAt B2 106 (.iload_n 3) 1 107 := ⟨by decide +kernel, rfl⟩
theorem d2_107 : DAt B2 107 (.bipush 9) 2 109 := ⟨by decide +kernel, rfl⟩
theorem d2_109 : DAt B2 109 (.idiv) 1 110 := ⟨by decide +kernel, rfl⟩
theorem d2_110 : DAt B2 110 (.iload_n 3) 1 111 := ⟨by decide +kernel, rfl⟩
theorem d2_111 : DAt B2 111 (.iconst 3) 1 112 := ⟨by decide +kernel, rfl⟩
theorem d2_112 : DAt B2 112 (.idiv) 1 113 := ⟨by decide +kernel, rfl⟩
theorem d2_113 : DAt B2 113 (.iconst 3) 1 114 := ⟨by decide +kernel, rfl⟩
theorem d2_114 : DAt B2 114 (.irem) 1 115 := ⟨by decide +kernel, rfl⟩
theorem d2_115 : DAt B2 115 (.iload_n 3) 1 116 := ⟨by decide +kernel, rfl⟩
theorem d2_116 : DAt B2 116 (.iconst 3) 1 117 := ⟨by decide +kernel, rfl⟩
theorem d2_117 : DAt B2 117 (.irem) 1 118 := ⟨by decide +kernel, rfl⟩
theorem d2_118 : DAt B2 118 (.invokevirtual 59) 3 121 := ⟨by decide +kernel, rfl⟩
theorem d2_121 : DAt B2 121 (.i2l) 1 122 := ⟨by decide +kernel, rfl⟩
theorem d2_122 : DAt B2 122 (.ladd) 1 123 := ⟨by decide +kernel, rfl⟩
theorem d2_123 : DAt B2 123 (.lstore_n 1) 1 124 := ⟨by decide +kernel, rfl⟩
theorem d2_124 : DAt B2 124 (.iinc 3 1) 3 127 := ⟨by decide +kernel, rfl⟩
theorem d2_127 : DAt B2 127 (.goto (-33)) 3 130 := ⟨by decide +kernel, rfl⟩
theorem d2_130 : DAt B2 130 (.iconst 0) 1 131 := ⟨by decide +kernel, rfl⟩
theorem d2_131 : DAt B2 131 (.istore_n 3) 1 132 := ⟨by decide +kernel, rfl⟩
theorem d2_132 : DAt B2 132 (.iload_n 3) 1 133 := ⟨by decide +kernel, rfl⟩
theorem d2_133 : DAt B2 133 (.bipush 39) 2 135 := ⟨by decide +kernel, rfl⟩
theorem d2_135 : DAt B2 135 (.if_icmp .ge 29) 3 138 := ⟨by decide +kernel, rfl⟩
theorem d2_138 : DAt B2 138 (.lload_n 1) 1 139 := ⟨by decide +kernel, rfl⟩
theorem d2_139 : DAt B2 139 (.ldc2_w 48) 3 142 := ⟨by decide +kernel, rfl⟩
theorem d2_142 : DAt B2 142 (.lmul) 1 143 := ⟨by decide +kernel, rfl⟩
theorem d2_143 : DAt B2 143 (.aload_n 0) 1 144 := ⟨by decide +kernel, rfl⟩
theorem d2_144 : DAt B2 144 (.iload_n 3) 1 145 := ⟨by decide +kernel, rfl⟩
theorem d2_145 : DAt B2 145 (.bipush 13) 2 147 := ⟨by decide +kernel, rfl⟩
theorem d2_147 : DAt B2 147 (.idiv) 1 148 := ⟨by decide +kernel, rfl⟩
theorem d2_148 : DAt B2 148 (.iload_n 3) 1 149 := ⟨by decide +kernel, rfl⟩
theorem d2_149 : DAt B2 149 (.bipush 13) 2 151 := ⟨by decide +kernel, rfl⟩
theorem d2_151 : DAt B2 151 (.irem) 1 152 := ⟨by decide +kernel, rfl⟩
theorem d2_152 : DAt B2 152 (.invokevirtual 62) 3 155 := ⟨by decide +kernel, rfl⟩
theorem d2_155 : DAt B2 155 (.i2l) 1 156 := ⟨by decide +kernel, rfl⟩
theorem d2_156 : DAt B2 156 (.ladd) 1 157 := ⟨by decide +kernel, rfl⟩
theorem d2_157 : DAt B2 157 (.lstore_n 1) 1 158 := ⟨by decide +kernel, rfl⟩
theorem d2_158 : DAt B2 158 (.iinc 3 1) 3 161 := ⟨by decide +kernel, rfl⟩
theorem d2_161 : DAt B2 161 (.goto (-29)) 3 164 := ⟨by decide +kernel, rfl⟩
theorem d2_164 : DAt B2 164 (.iconst 0) 1 165 := ⟨by decide +kernel, rfl⟩
theorem d2_165 : DAt B2 165 (.istore_n 3) 1 166 := ⟨by decide +kernel, rfl⟩
theorem d2_166 : DAt B2 166 (.iload_n 3) 1 167 := ⟨by decide +kernel, rfl⟩
theorem d2_167 : DAt B2 167 (.bipush 9) 2 169 := ⟨by decide +kernel, rfl⟩
theorem d2_169 : DAt B2 169 (.if_icmp .ge 27) 3 172 := ⟨by decide +kernel, rfl⟩
theorem d2_172 : DAt B2 172 (.lload_n 1) 1 173 := ⟨by decide +kernel, rfl⟩
theorem d2_173 : DAt B2 173 (.ldc2_w 48) 3 176 := ⟨by decide +kernel, rfl⟩
theorem d2_176 : DAt B2 176 (.lmul) 1 177 := ⟨by decide +kernel, rfl⟩
theorem d2_177 : DAt B2 177 (.aload_n 0) 1 178 := ⟨by decide +kernel, rfl⟩
theorem d2_178 : DAt B2 178 (.iload_n 3) 1 179 := ⟨by decide +kernel, rfl⟩
theorem d2_179 : DAt B2 179 (.iconst 3) 1 180 := ⟨by decide +kernel, rfl⟩
theorem d2_180 : DAt B2 180 (.idiv) 1 181 := ⟨by decide +kernel, rfl⟩
theorem d2_181 : DAt B2 181 (.iload_n 3) 1 182 := ⟨by decide +kernel, rfl⟩
theorem d2_182 : DAt B2 182 (.iconst 3) 1 183 := ⟨by decide +kernel, rfl⟩
theorem d2_183 : DAt B2 183 (.irem) 1 184 := ⟨by decide +kernel, rfl⟩
theorem d2_184 : DAt B2 184 (.invokevirtual 65) 3 187 := ⟨by decide +kernel, rfl⟩
theorem d2_187 : DAt B2 187 (.i2l) 1 188 := ⟨by decide +kernel, rfl⟩
theorem d2_188 : DAt B2 188 (.ladd) 1 189 := ⟨by decide +kernel, rfl⟩
theorem d2_189 : DAt B2 189 (.lstore_n 1) 1 190 := ⟨by decide +kernel, rfl⟩
theorem d2_190 : DAt B2 190 (.iinc 3 1) 3 193 := ⟨by decide +kernel, rfl⟩
theorem d2_193 : DAt B2 193 (.goto (-27)) 3 196 := ⟨by decide +kernel, rfl⟩
theorem d2_196 : DAt B2 196 (.iconst 0) 1 197 := ⟨by decide +kernel, rfl⟩
theorem d2_197 : DAt B2 197 (.istore_n 3) 1 198 := ⟨by decide +kernel, rfl⟩
theorem d2_198 : DAt B2 198 (.iload_n 3) 1 199 := ⟨by decide +kernel, rfl⟩
theorem d2_199 : DAt B2 199 (.iconst 3) 1 200 := ⟨by decide +kernel, rfl⟩
theorem d2_200 : DAt B2 200 (.if_icmp .ge 53) 3 203 := ⟨by decide +kernel, rfl⟩
theorem d2_203 : DAt B2 203 (.lload_n 1) 1 204 := ⟨by decide +kernel, rfl⟩
theorem d2_204 : DAt B2 204 (.ldc2_w 48) 3 207 := ⟨by decide +kernel, rfl⟩
theorem d2_207 : DAt B2 207 (.lmul) 1 208 := ⟨by decide +kernel, rfl⟩
theorem d2_208 : DAt B2 208 (.aload_n 0) 1 209 := ⟨by decide +kernel, rfl⟩
theorem d2_209 : DAt B2 209 (.iload_n 3) 1 210 := ⟨by decide +kernel, rfl⟩
theorem d2_210 : DAt B2 210 (.invokevirtual 68) 3 213 := ⟨by decide +kernel, rfl⟩
theorem d2_213 : DAt B2 213 (.i2l) 1 214 := ⟨by decide +kernel, rfl⟩
theorem d2_214 : DAt B2 214 (.ladd) 1 215 := ⟨by decide +kernel, rfl⟩
theorem d2_215 : DAt B2 215 (.lstore_n 1) 1 216 := ⟨by decide +kernel, rfl⟩
theorem d2_216 : DAt B2 216 (.aload_n 0) 1 217 := ⟨by decide +kernel, rfl⟩
theorem d2_217 : DAt B2 217 (.iload_n 3) 1 218 := ⟨by decide +kernel, rfl⟩
theorem d2_218 : DAt B2 218 (.invokevirtual 71) 3 221 := ⟨by decide +kernel, rfl⟩
theorem d2_221 : DAt B2 221 (.ifCond .eq 16) 3 224 := ⟨by decide +kernel, rfl⟩
theorem d2_224 : DAt B2 224 (.lload_n 1) 1 225 := ⟨by decide +kernel, rfl⟩
theorem d2_225 : DAt B2 225 (.ldc2_w 48) 3 228 := ⟨by decide +kernel, rfl⟩
theorem d2_228 : DAt B2 228 (.lmul) 1 229 := ⟨by decide +kernel, rfl⟩
theorem d2_229 : DAt B2 229 (.ldc2_w 75) 3 232 := ⟨by decide +kernel, rfl⟩
theorem d2_232 : DAt B2 232 (.ladd) 1 233 := ⟨by decide +kernel, rfl⟩
theorem d2_233 : DAt B2 233 (.lstore_n 1) 1 234 := ⟨by decide +kernel, rfl⟩
theorem d2_234 : DAt B2 234 (.goto 13) 3 237 := ⟨by decide +kernel, rfl⟩
theorem d2_237 : DAt B2 237 (.lload_n 1) 1 238 := ⟨by decide +kernel, rfl⟩
theorem d2_238 : DAt B2 238 (.ldc2_w 48) 3 241 := ⟨by decide +kernel, rfl⟩
theorem d2_241 : DAt B2 241 (.lmul) 1 242 := ⟨by decide +kernel, rfl⟩
theorem d2_242 : DAt B2 242 (.ldc2_w 77) 3 245 := ⟨by decide +kernel, rfl⟩
theorem d2_245 : DAt B2 245 (.ladd) 1 246 := ⟨by decide +kernel, rfl⟩
theorem d2_246 : DAt B2 246 (.lstore_n 1) 1 247 := ⟨by decide +kernel, rfl⟩
theorem d2_247 : DAt B2 247 (.iinc 3 1) 3 250 := ⟨by decide +kernel, rfl⟩
theorem d2_250 : DAt B2 250 (.goto (-52)) 3 253 := ⟨by decide +kernel, rfl⟩
theorem d2_253 : DAt B2 253 (.lload_n 1) 1 254 := ⟨by decide +kernel, rfl⟩
theorem d2_254 : DAt B2 254 (.lreturn) 1 255 := ⟨by decide +kernel, rfl⟩
def B16 : Bdy := ((⟨"CausalStable", "deliverAt", "(III)V"⟩ : MethodName), prog_1_method_8_code, 7, none, ({ frames := 1, cells := 0, slots := 0, locals := 15 } : Room))
theorem d16_0 : DAt B16 0 (.aload_n 0) 1 1 := ⟨by decide +kernel, rfl⟩
theorem d16_1 : DAt B16 1 (.iload_n 1) 1 2 := ⟨by decide +kernel, rfl⟩
theorem d16_2 : DAt B16 2 (.iload_n 2) 1 3 := ⟨by decide +kernel, rfl⟩
theorem d16_3 : DAt B16 3 (.iload_n 3) 1 4 := ⟨by decide +kernel, rfl⟩
theorem d16_4 : DAt B16 4 (.invokevirtual 45) 3 7 := ⟨by decide +kernel, rfl⟩
theorem d16_7 : DAt B16 7 (.istore 4) 2 9 := ⟨by decide +kernel, rfl⟩
theorem d16_9 : DAt B16 9 (.aload_n 0) 1 10 := ⟨by decide +kernel, rfl⟩
theorem d16_10 : DAt B16 10 (.getfield 20) 3 13 := ⟨by decide +kernel, rfl⟩
theorem d16_13 : DAt B16 13 (.iload 4) 2 15 := ⟨by decide +kernel, rfl⟩
theorem d16_15 : DAt B16 15 (.iconst 2) 1 16 := ⟨by decide +kernel, rfl⟩
theorem d16_16 : DAt B16 16 (.iastore) 1 17 := ⟨by decide +kernel, rfl⟩
theorem d16_17 : DAt B16 17 (.aload_n 0) 1 18 := ⟨by decide +kernel, rfl⟩
theorem d16_18 : DAt B16 18 (.getfield 17) 3 21 := ⟨by decide +kernel, rfl⟩
theorem d16_21 : DAt B16 21 (.iload_n 1) 1 22 := ⟨by decide +kernel, rfl⟩
theorem d16_22 : DAt B16 22 (.bipush 8) 2 24 := ⟨by decide +kernel, rfl⟩
theorem d16_24 : DAt B16 24 (.imul) 1 25 := ⟨by decide +kernel, rfl⟩
theorem d16_25 : DAt B16 25 (.iload_n 2) 1 26 := ⟨by decide +kernel, rfl⟩
theorem d16_26 : DAt B16 26 (.iadd) 1 27 := ⟨by decide +kernel, rfl⟩
theorem d16_27 : DAt B16 27 (.aload_n 0) 1 28 := ⟨by decide +kernel, rfl⟩
theorem d16_28 : DAt B16 28 (.getfield 17) 3 31 := ⟨by decide +kernel, rfl⟩
theorem d16_31 : DAt B16 31 (.iload_n 1) 1 32 := ⟨by decide +kernel, rfl⟩
theorem d16_32 : DAt B16 32 (.bipush 8) 2 34 := ⟨by decide +kernel, rfl⟩
theorem d16_34 : DAt B16 34 (.imul) 1 35 := ⟨by decide +kernel, rfl⟩
theorem d16_35 : DAt B16 35 (.iload_n 2) 1 36 := ⟨by decide +kernel, rfl⟩
theorem d16_36 : DAt B16 36 (.iadd) 1 37 := ⟨by decide +kernel, rfl⟩
theorem d16_37 : DAt B16 37 (.iaload) 1 38 := ⟨by decide +kernel, rfl⟩
theorem d16_38 : DAt B16 38 (.iconst 1) 1 39 := ⟨by decide +kernel, rfl⟩
theorem d16_39 : DAt B16 39 (.iadd) 1 40 := ⟨by decide +kernel, rfl⟩
theorem d16_40 : DAt B16 40 (.iastore) 1 41 := ⟨by decide +kernel, rfl⟩
theorem d16_41 : DAt B16 41 (.aload_n 0) 1 42 := ⟨by decide +kernel, rfl⟩
theorem d16_42 : DAt B16 42 (.getfield 35) 3 45 := ⟨by decide +kernel, rfl⟩
theorem d16_45 : DAt B16 45 (.iload_n 1) 1 46 := ⟨by decide +kernel, rfl⟩
theorem d16_46 : DAt B16 46 (.iaload) 1 47 := ⟨by decide +kernel, rfl⟩
theorem d16_47 : DAt B16 47 (.istore 5) 2 49 := ⟨by decide +kernel, rfl⟩
theorem d16_49 : DAt B16 49 (.iload 5) 2 51 := ⟨by decide +kernel, rfl⟩
theorem d16_51 : DAt B16 51 (.ifCond .lt 38) 3 54 := ⟨by decide +kernel, rfl⟩
theorem d16_54 : DAt B16 54 (.iload 5) 2 56 := ⟨by decide +kernel, rfl⟩
theorem d16_56 : DAt B16 56 (.bipush 64) 2 58 := ⟨by decide +kernel, rfl⟩
theorem d16_58 : DAt B16 58 (.if_icmp .ge 31) 3 61 := ⟨by decide +kernel, rfl⟩
theorem d16_61 : DAt B16 61 (.aload_n 0) 1 62 := ⟨by decide +kernel, rfl⟩
theorem d16_62 : DAt B16 62 (.getfield 32) 3 65 := ⟨by decide +kernel, rfl⟩
theorem d16_65 : DAt B16 65 (.iload_n 1) 1 66 := ⟨by decide +kernel, rfl⟩
theorem d16_66 : DAt B16 66 (.bipush 64) 2 68 := ⟨by decide +kernel, rfl⟩
theorem d16_68 : DAt B16 68 (.imul) 1 69 := ⟨by decide +kernel, rfl⟩
theorem d16_69 : DAt B16 69 (.iload 5) 2 71 := ⟨by decide +kernel, rfl⟩
theorem d16_71 : DAt B16 71 (.iadd) 1 72 := ⟨by decide +kernel, rfl⟩
theorem d16_72 : DAt B16 72 (.iload_n 2) 1 73 := ⟨by decide +kernel, rfl⟩
theorem d16_73 : DAt B16 73 (.bipush 16) 2 75 := ⟨by decide +kernel, rfl⟩
theorem d16_75 : DAt B16 75 (.imul) 1 76 := ⟨by decide +kernel, rfl⟩
theorem d16_76 : DAt B16 76 (.iload_n 3) 1 77 := ⟨by decide +kernel, rfl⟩
theorem d16_77 : DAt B16 77 (.iadd) 1 78 := ⟨by decide +kernel, rfl⟩
theorem d16_78 : DAt B16 78 (.iastore) 1 79 := ⟨by decide +kernel, rfl⟩
theorem d16_79 : DAt B16 79 (.aload_n 0) 1 80 := ⟨by decide +kernel, rfl⟩
theorem d16_80 : DAt B16 80 (.getfield 35) 3 83 := ⟨by decide +kernel, rfl⟩
theorem d16_83 : DAt B16 83 (.iload_n 1) 1 84 := ⟨by decide +kernel, rfl⟩
theorem d16_84 : DAt B16 84 (.iload 5) 2 86 := ⟨by decide +kernel, rfl⟩
theorem d16_86 : DAt B16 86 (.iconst 1) 1 87 := ⟨by decide +kernel, rfl⟩
theorem d16_87 : DAt B16 87 (.iadd) 1 88 := ⟨by decide +kernel, rfl⟩
theorem d16_88 : DAt B16 88 (.iastore) 1 89 := ⟨by decide +kernel, rfl⟩
theorem d16_89 : DAt B16 89 (.aload_n 0) 1 90 := ⟨by decide +kernel, rfl⟩
theorem d16_90 : DAt B16 90 (.iload_n 1) 1 91 := ⟨by decide +kernel, rfl⟩
theorem d16_91 : DAt B16 91 (.iload_n 1) 1 92 := ⟨by decide +kernel, rfl⟩
theorem d16_92 : DAt B16 92 (.iload_n 2) 1 93 := ⟨by decide +kernel, rfl⟩
theorem d16_93 : DAt B16 93 (.invokevirtual 49) 3 96 := ⟨by decide +kernel, rfl⟩
theorem d16_96 : DAt B16 96 (.istore 6) 2 98 := ⟨by decide +kernel, rfl⟩
theorem d16_98 : DAt B16 98 (.aload_n 0) 1 99 := ⟨by decide +kernel, rfl⟩
theorem d16_99 : DAt B16 99 (.getfield 29) 3 102 := ⟨by decide +kernel, rfl⟩
theorem d16_102 : DAt B16 102 (.iload 6) 2 104 := ⟨by decide +kernel, rfl⟩
theorem d16_104 : DAt B16 104 (.aload_n 0) 1 105 := ⟨by decide +kernel, rfl⟩
theorem d16_105 : DAt B16 105 (.getfield 17) 3 108 := ⟨by decide +kernel, rfl⟩
theorem d16_108 : DAt B16 108 (.iload_n 1) 1 109 := ⟨by decide +kernel, rfl⟩
theorem d16_109 : DAt B16 109 (.bipush 8) 2 111 := ⟨by decide +kernel, rfl⟩
theorem d16_111 : DAt B16 111 (.imul) 1 112 := ⟨by decide +kernel, rfl⟩
theorem d16_112 : DAt B16 112 (.iload_n 2) 1 113 := ⟨by decide +kernel, rfl⟩
theorem d16_113 : DAt B16 113 (.iadd) 1 114 := ⟨by decide +kernel, rfl⟩
theorem d16_114 : DAt B16 114 (.iaload) 1 115 := ⟨by decide +kernel, rfl⟩
theorem d16_115 : DAt B16 115 (.iastore) 1 116 := ⟨by decide +kernel, rfl⟩
theorem d16_116 : DAt B16 116 (.return_) 1 117 := ⟨by decide +kernel, rfl⟩
def B14 : Bdy := ((⟨"CausalStable", "broadcast", "(I)I"⟩ : MethodName), prog_1_method_13_code, 5, (some .int), ({ frames := 2, cells := 0, slots := 0, locals := 33 } : Room))
theorem d14_0 : DAt B14 0 (.aload_n 0) 1 1 := ⟨by decide +kernel, rfl⟩
theorem d14_1 : DAt B14 1 (.iload_n 1) 1 2 := ⟨by decide +kernel, rfl⟩
theorem d14_2 : DAt B14 2 (.invokevirtual 68) 3 5 := ⟨by decide +kernel, rfl⟩
theorem d14_5 : DAt B14 5 (.ifCond .ne 5) 3 8 := ⟨by decide +kernel, rfl⟩
theorem d14_8 : DAt B14 8 (.iconst (-1)) 1 9 := ⟨by decide +kernel, rfl⟩
theorem d14_9 : DAt B14 9 (.ireturn) 1 10 := ⟨by decide +kernel, rfl⟩
theorem d14_10 : DAt B14 10 (.aload_n 0) 1 11 := ⟨by decide +kernel, rfl⟩
theorem d14_11 : DAt B14 11 (.getfield 13) 3 14 := ⟨by decide +kernel, rfl⟩
theorem d14_14 : DAt B14 14 (.iload_n 1) 1 15 := ⟨by decide +kernel, rfl⟩
theorem d14_15 : DAt B14 15 (.baload) 1 16 := ⟨by decide +kernel, rfl⟩
theorem d14_16 : DAt B14 16 (.ifCond .eq 6) 3 19 := ⟨by decide +kernel, rfl⟩
theorem d14_19 : DAt B14 19 (.bipush (-2)) 2 21 := ⟨by decide +kernel, rfl⟩
theorem d14_21 : DAt B14 21 (.ireturn) 1 22 := ⟨by decide +kernel, rfl⟩
theorem d14_22 : DAt B14 22 (.aload_n 0) 1 23 := ⟨by decide +kernel, rfl⟩
theorem d14_23 : DAt B14 23 (.getfield 7) 3 26 := ⟨by decide +kernel, rfl⟩
theorem d14_26 : DAt B14 26 (.iload_n 1) 1 27 := ⟨by decide +kernel, rfl⟩
theorem d14_27 : DAt B14 27 (.iaload) 1 28 := ⟨by decide +kernel, rfl⟩
theorem d14_28 : DAt B14 28 (.aload_n 0) 1 29 := ⟨by decide +kernel, rfl⟩
theorem d14_29 : DAt B14 29 (.getfield 42) 3 32 := ⟨by decide +kernel, rfl⟩
theorem d14_32 : DAt B14 32 (.if_icmp .lt 6) 3 35 := ⟨by decide +kernel, rfl⟩
theorem d14_35 : DAt B14 35 (.bipush (-3)) 2 37 := ⟨by decide +kernel, rfl⟩
theorem d14_37 : DAt B14 37 (.ireturn) 1 38 := ⟨by decide +kernel, rfl⟩
theorem d14_38 : DAt B14 38 (.aload_n 0) 1 39 := ⟨by decide +kernel, rfl⟩
theorem d14_39 : DAt B14 39 (.getfield 7) 3 42 := ⟨by decide +kernel, rfl⟩
theorem d14_42 : DAt B14 42 (.iload_n 1) 1 43 := ⟨by decide +kernel, rfl⟩
theorem d14_43 : DAt B14 43 (.iaload) 1 44 := ⟨by decide +kernel, rfl⟩
theorem d14_44 : DAt B14 44 (.iconst 1) 1 45 := ⟨by decide +kernel, rfl⟩
theorem d14_45 : DAt B14 45 (.iadd) 1 46 := ⟨by decide +kernel, rfl⟩
theorem d14_46 : DAt B14 46 (.istore_n 2) 1 47 := ⟨by decide +kernel, rfl⟩
theorem d14_47 : DAt B14 47 (.aload_n 0) 1 48 := ⟨by decide +kernel, rfl⟩
theorem d14_48 : DAt B14 48 (.getfield 7) 3 51 := ⟨by decide +kernel, rfl⟩
theorem d14_51 : DAt B14 51 (.iload_n 1) 1 52 := ⟨by decide +kernel, rfl⟩
theorem d14_52 : DAt B14 52 (.iload_n 2) 1 53 := ⟨by decide +kernel, rfl⟩
theorem d14_53 : DAt B14 53 (.iastore) 1 54 := ⟨by decide +kernel, rfl⟩
theorem d14_54 : DAt B14 54 (.aload_n 0) 1 55 := ⟨by decide +kernel, rfl⟩
theorem d14_55 : DAt B14 55 (.iload_n 1) 1 56 := ⟨by decide +kernel, rfl⟩
theorem d14_56 : DAt B14 56 (.iload_n 2) 1 57 := ⟨by decide +kernel, rfl⟩
theorem d14_57 : DAt B14 57 (.invokevirtual 56) 3 60 := ⟨by decide +kernel, rfl⟩
theorem d14_60 : DAt B14 60 (.istore_n 3) 1 61 := ⟨by decide +kernel, rfl⟩
theorem d14_61 : DAt B14 61 (.iconst 0) 1 62 := ⟨by decide +kernel, rfl⟩
theorem d14_62 : DAt B14 62 (.istore 4) 2 64 := ⟨by decide +kernel, rfl⟩
theorem d14_64 : DAt B14 64 (.iload 4) 2 66 := ⟨by decide +kernel, rfl⟩
theorem d14_66 : DAt B14 66 (.aload_n 0) 1 67 := ⟨by decide +kernel, rfl⟩
theorem d14_67 : DAt B14 67 (.getfield 38) 3 70 := ⟨by decide +kernel, rfl⟩
theorem d14_70 : DAt B14 70 (.if_icmp .ge 33) 3 73 := ⟨by decide +kernel, rfl⟩
theorem d14_73 : DAt B14 73 (.aload_n 0) 1 74 := ⟨by decide +kernel, rfl⟩
theorem d14_74 : DAt B14 74 (.getfield 23) 3 77 := ⟨by decide +kernel, rfl⟩
theorem d14_77 : DAt B14 77 (.iload_n 3) 1 78 := ⟨by decide +kernel, rfl⟩
theorem d14_78 : DAt B14 78 (.bipush 8) 2 80 := ⟨by decide +kernel, rfl⟩
theorem d14_80 : DAt B14 80 (.imul) 1 81 := ⟨by decide +kernel, rfl⟩
theorem d14_81 : DAt B14 81 (.iload 4) 2 83 := ⟨by decide +kernel, rfl⟩
theorem d14_83 : DAt B14 83 (.iadd) 1 84 := ⟨by decide +kernel, rfl⟩
theorem d14_84 : DAt B14 84 (.aload_n 0) 1 85 := ⟨by decide +kernel, rfl⟩
theorem d14_85 : DAt B14 85 (.getfield 17) 3 88 := ⟨by decide +kernel, rfl⟩
theorem d14_88 : DAt B14 88 (.iload_n 1) 1 89 := ⟨by decide +kernel, rfl⟩
theorem d14_89 : DAt B14 89 (.bipush 8) 2 91 := ⟨by decide +kernel, rfl⟩
theorem d14_91 : DAt B14 91 (.imul) 1 92 := ⟨by decide +kernel, rfl⟩
theorem d14_92 : DAt B14 92 (.iload 4) 2 94 := ⟨by decide +kernel, rfl⟩
theorem d14_94 : DAt B14 94 (.iadd) 1 95 := ⟨by decide +kernel, rfl⟩
theorem d14_95 : DAt B14 95 (.iaload) 1 96 := ⟨by decide +kernel, rfl⟩
theorem d14_96 : DAt B14 96 (.iastore) 1 97 := ⟨by decide +kernel, rfl⟩
theorem d14_97 : DAt B14 97 (.iinc 4 1) 3 100 := ⟨by decide +kernel, rfl⟩
theorem d14_100 : DAt B14 100 (.goto (-36)) 3 103 := ⟨by decide +kernel, rfl⟩
theorem d14_103 : DAt B14 103 (.aload_n 0) 1 104 := ⟨by decide +kernel, rfl⟩
theorem d14_104 : DAt B14 104 (.getfield 23) 3 107 := ⟨by decide +kernel, rfl⟩
theorem d14_107 : DAt B14 107 (.iload_n 3) 1 108 := ⟨by decide +kernel, rfl⟩
theorem d14_108 : DAt B14 108 (.bipush 8) 2 110 := ⟨by decide +kernel, rfl⟩
theorem d14_110 : DAt B14 110 (.imul) 1 111 := ⟨by decide +kernel, rfl⟩
theorem d14_111 : DAt B14 111 (.iload_n 1) 1 112 := ⟨by decide +kernel, rfl⟩
theorem d14_112 : DAt B14 112 (.iadd) 1 113 := ⟨by decide +kernel, rfl⟩
theorem d14_113 : DAt B14 113 (.iload_n 2) 1 114 := ⟨by decide +kernel, rfl⟩
theorem d14_114 : DAt B14 114 (.iastore) 1 115 := ⟨by decide +kernel, rfl⟩
theorem d14_115 : DAt B14 115 (.aload_n 0) 1 116 := ⟨by decide +kernel, rfl⟩
theorem d14_116 : DAt B14 116 (.iload_n 1) 1 117 := ⟨by decide +kernel, rfl⟩
theorem d14_117 : DAt B14 117 (.iload_n 1) 1 118 := ⟨by decide +kernel, rfl⟩
theorem d14_118 : DAt B14 118 (.iload_n 2) 1 119 := ⟨by decide +kernel, rfl⟩
theorem d14_119 : DAt B14 119 (.invokevirtual 64) 3 122 := ⟨by decide +kernel, rfl⟩
theorem d14_122 : DAt B14 122 (.iconst 0) 1 123 := ⟨by decide +kernel, rfl⟩
theorem d14_123 : DAt B14 123 (.istore 4) 2 125 := ⟨by decide +kernel, rfl⟩
theorem d14_125 : DAt B14 125 (.iload 4) 2 127 := ⟨by decide +kernel, rfl⟩
theorem d14_127 : DAt B14 127 (.aload_n 0) 1 128 := ⟨by decide +kernel, rfl⟩
theorem d14_128 : DAt B14 128 (.getfield 38) 3 131 := ⟨by decide +kernel, rfl⟩
theorem d14_131 : DAt B14 131 (.if_icmp .ge 32) 3 134 := ⟨by decide +kernel, rfl⟩
theorem d14_134 : DAt B14 134 (.aload_n 0) 1 135 := ⟨by decide +kernel, rfl⟩
theorem d14_135 : DAt B14 135 (.getfield 26) 3 138 := ⟨by decide +kernel, rfl⟩
theorem d14_138 : DAt B14 138 (.iload_n 3) 1 139 := ⟨by decide +kernel, rfl⟩
theorem d14_139 : DAt B14 139 (.bipush 8) 2 141 := ⟨by decide +kernel, rfl⟩
theorem d14_141 : DAt B14 141 (.imul) 1 142 := ⟨by decide +kernel, rfl⟩
theorem d14_142 : DAt B14 142 (.iload 4) 2 144 := ⟨by decide +kernel, rfl⟩
theorem d14_144 : DAt B14 144 (.iadd) 1 145 := ⟨by decide +kernel, rfl⟩
theorem d14_145 : DAt B14 145 (.iload 4) 2 147 := ⟨by decide +kernel, rfl⟩
theorem d14_147 : DAt B14 147 (.iload_n 1) 1 148 := ⟨by decide +kernel, rfl⟩
theorem d14_148 : DAt B14 148 (.if_icmp .ne 7) 3 151 := ⟨by decide +kernel, rfl⟩
theorem d14_151 : DAt B14 151 (.iconst 0) 1 152 := ⟨by decide +kernel, rfl⟩
theorem d14_152 : DAt B14 152 (.goto 4) 3 155 := ⟨by decide +kernel, rfl⟩
theorem d14_155 : DAt B14 155 (.iconst 1) 1 156 := ⟨by decide +kernel, rfl⟩
theorem d14_156 : DAt B14 156 (.iastore) 1 157 := ⟨by decide +kernel, rfl⟩
theorem d14_157 : DAt B14 157 (.iinc 4 1) 3 160 := ⟨by decide +kernel, rfl⟩
theorem d14_160 : DAt B14 160 (.goto (-35)) 3 163 := ⟨by decide +kernel, rfl⟩
theorem d14_163 : DAt B14 163 (.iload_n 2) 1 164 := ⟨by decide +kernel, rfl⟩
theorem d14_164 : DAt B14 164 (.ireturn) 1 165 := ⟨by decide +kernel, rfl⟩
def B29 : Bdy := ((⟨"CausalStable", "isDeliverable", "(III)Z"⟩ : MethodName), prog_1_method_9_code, 7, (some .boolean), ({ frames := 1, cells := 0, slots := 0, locals := 15 } : Room))
theorem d29_0 : DAt B29 0 (.aload_n 0) 1 1 := ⟨by decide +kernel, rfl⟩
theorem d29_1 : DAt B29 1 (.iload_n 2) 1 2 := ⟨by decide +kernel, rfl⟩
theorem d29_2 : DAt B29 2 (.iload_n 3) 1 3 := ⟨by decide +kernel, rfl⟩
theorem d29_3 : DAt B29 3 (.invokevirtual 52) 3 6 := ⟨by decide +kernel, rfl⟩
theorem d29_6 : DAt B29 6 (.ifCond .ne 5) 3 9 := ⟨by decide +kernel, rfl⟩
theorem d29_9 : DAt B29 9 (.iconst 0) 1 10 := ⟨by decide +kernel, rfl⟩
theorem d29_10 : DAt B29 10 (.ireturn) 1 11 := ⟨by decide +kernel, rfl⟩
theorem d29_11 : DAt B29 11 (.aload_n 0) 1 12 := ⟨by decide +kernel, rfl⟩
theorem d29_12 : DAt B29 12 (.iload_n 1) 1 13 := ⟨by decide +kernel, rfl⟩
theorem d29_13 : DAt B29 13 (.iload_n 2) 1 14 := ⟨by decide +kernel, rfl⟩
theorem d29_14 : DAt B29 14 (.iload_n 3) 1 15 := ⟨by decide +kernel, rfl⟩
theorem d29_15 : DAt B29 15 (.invokevirtual 45) 3 18 := ⟨by decide +kernel, rfl⟩
theorem d29_18 : DAt B29 18 (.istore 4) 2 20 := ⟨by decide +kernel, rfl⟩
theorem d29_20 : DAt B29 20 (.aload_n 0) 1 21 := ⟨by decide +kernel, rfl⟩
theorem d29_21 : DAt B29 21 (.getfield 20) 3 24 := ⟨by decide +kernel, rfl⟩
theorem d29_24 : DAt B29 24 (.iload 4) 2 26 := ⟨by decide +kernel, rfl⟩
theorem d29_26 : DAt B29 26 (.iaload) 1 27 := ⟨by decide +kernel, rfl⟩
theorem d29_27 : DAt B29 27 (.iconst 1) 1 28 := ⟨by decide +kernel, rfl⟩
theorem d29_28 : DAt B29 28 (.if_icmp .eq 5) 3 31 := ⟨by decide +kernel, rfl⟩
theorem d29_31 : DAt B29 31 (.iconst 0) 1 32 := ⟨by decide +kernel, rfl⟩
theorem d29_32 : DAt B29 32 (.ireturn) 1 33 := ⟨by decide +kernel, rfl⟩
theorem d29_33 : DAt B29 33 (.iload_n 3) 1 34 := ⟨by decide +kernel, rfl⟩
theorem d29_34 : DAt B29 34 (.aload_n 0) 1 35 := ⟨by decide +kernel, rfl⟩
theorem d29_35 : DAt B29 35 (.getfield 17) 3 38 := ⟨by decide +kernel, rfl⟩
theorem d29_38 : DAt B29 38 (.iload_n 1) 1 39 := ⟨by decide +kernel, rfl⟩
theorem d29_39 : DAt B29 39 (.bipush 8) 2 41 := ⟨by decide +kernel, rfl⟩
theorem d29_41 : DAt B29 41 (.imul) 1 42 := ⟨by decide +kernel, rfl⟩
theorem d29_42 : DAt B29 42 (.iload_n 2) 1 43 := ⟨by decide +kernel, rfl⟩
theorem d29_43 : DAt B29 43 (.iadd) 1 44 := ⟨by decide +kernel, rfl⟩
theorem d29_44 : DAt B29 44 (.iaload) 1 45 := ⟨by decide +kernel, rfl⟩
theorem d29_45 : DAt B29 45 (.iconst 1) 1 46 := ⟨by decide +kernel, rfl⟩
theorem d29_46 : DAt B29 46 (.iadd) 1 47 := ⟨by decide +kernel, rfl⟩
theorem d29_47 : DAt B29 47 (.if_icmp .eq 5) 3 50 := ⟨by decide +kernel, rfl⟩
theorem d29_50 : DAt B29 50 (.iconst 0) 1 51 := ⟨by decide +kernel, rfl⟩
theorem d29_51 : DAt B29 51 (.ireturn) 1 52 := ⟨by decide +kernel, rfl⟩
theorem d29_52 : DAt B29 52 (.aload_n 0) 1 53 := ⟨by decide +kernel, rfl⟩
theorem d29_53 : DAt B29 53 (.iload_n 2) 1 54 := ⟨by decide +kernel, rfl⟩
theorem d29_54 : DAt B29 54 (.iload_n 3) 1 55 := ⟨by decide +kernel, rfl⟩
theorem d29_55 : DAt B29 55 (.invokevirtual 56) 3 58 := ⟨by decide +kernel, rfl⟩
theorem d29_58 : DAt B29 58 (.istore 5) 2 60 := ⟨by decide +kernel, rfl⟩
theorem d29_60 : DAt B29 60 (.iconst 0) 1 61 := ⟨by decide +kernel, rfl⟩
theorem d29_61 : DAt B29 61 (.istore 6) 2 63 := ⟨by decide +kernel, rfl⟩
theorem d29_63 : DAt B29 63 (.iload 6) 2 65 := ⟨by decide +kernel, rfl⟩
theorem d29_65 : DAt B29 65 (.aload_n 0) 1 66 := ⟨by decide +kernel, rfl⟩
theorem d29_66 : DAt B29 66 (.getfield 38) 3 69 := ⟨by decide +kernel, rfl⟩
theorem d29_69 : DAt B29 69 (.if_icmp .ge 45) 3 72 := ⟨by decide +kernel, rfl⟩
theorem d29_72 : DAt B29 72 (.iload 6) 2 74 := ⟨by decide +kernel, rfl⟩
theorem d29_74 : DAt B29 74 (.iload_n 2) 1 75 := ⟨by decide +kernel, rfl⟩
theorem d29_75 : DAt B29 75 (.if_icmp .eq 33) 3 78 := ⟨by decide +kernel, rfl⟩
theorem d29_78 : DAt B29 78 (.aload_n 0) 1 79 := ⟨by decide +kernel, rfl⟩
theorem d29_79 : DAt B29 79 (.getfield 23) 3 82 := ⟨by decide +kernel, rfl⟩
theorem d29_82 : DAt B29 82 (.iload 5) 2 84 := ⟨by decide +kernel, rfl⟩
theorem d29_84 : DAt B29 84 (.bipush 8) 2 86 := ⟨by decide +kernel, rfl⟩
theorem d29_86 : DAt B29 86 (.imul) 1 87 := ⟨by decide +kernel, rfl⟩
theorem d29_87 : DAt B29 87 (.iload 6) 2 89 := ⟨by decide +kernel, rfl⟩
theorem d29_89 : DAt B29 89 (.iadd) 1 90 := ⟨by decide +kernel, rfl⟩
theorem d29_90 : DAt B29 90 (.iaload) 1 91 := ⟨by decide +kernel, rfl⟩
theorem d29_91 : DAt B29 91 (.aload_n 0) 1 92 := ⟨by decide +kernel, rfl⟩
theorem d29_92 : DAt B29 92 (.getfield 17) 3 95 := ⟨by decide +kernel, rfl⟩
theorem d29_95 : DAt B29 95 (.iload_n 1) 1 96 := ⟨by decide +kernel, rfl⟩
theorem d29_96 : DAt B29 96 (.bipush 8) 2 98 := ⟨by decide +kernel, rfl⟩
theorem d29_98 : DAt B29 98 (.imul) 1 99 := ⟨by decide +kernel, rfl⟩
theorem d29_99 : DAt B29 99 (.iload 6) 2 101 := ⟨by decide +kernel, rfl⟩
theorem d29_101 : DAt B29 101 (.iadd) 1 102 := ⟨by decide +kernel, rfl⟩
theorem d29_102 : DAt B29 102 (.iaload) 1 103 := ⟨by decide +kernel, rfl⟩
theorem d29_103 : DAt B29 103 (.if_icmp .le 5) 3 106 := ⟨by decide +kernel, rfl⟩
theorem d29_106 : DAt B29 106 (.iconst 0) 1 107 := ⟨by decide +kernel, rfl⟩
theorem d29_107 : DAt B29 107 (.ireturn) 1 108 := ⟨by decide +kernel, rfl⟩
theorem d29_108 : DAt B29 108 (.iinc 6 1) 3 111 := ⟨by decide +kernel, rfl⟩
theorem d29_111 : DAt B29 111 (.goto (-48)) 3 114 := ⟨by decide +kernel, rfl⟩
theorem d29_114 : DAt B29 114 (.iconst 1) 1 115 := ⟨by decide +kernel, rfl⟩
theorem d29_115 : DAt B29 115 (.ireturn) 1 116 := ⟨by decide +kernel, rfl⟩
def B28 : Bdy := ((⟨"CausalStable", "cascade", "(I)I"⟩ : MethodName), prog_1_method_10_code, 8, (some .int), ({ frames := 2, cells := 0, slots := 0, locals := 33 } : Room))
theorem d28_0 : DAt B28 0 (.iconst 0) 1 1 := ⟨by decide +kernel, rfl⟩
theorem d28_1 : DAt B28 1 (.istore_n 2) 1 2 := ⟨by decide +kernel, rfl⟩
theorem d28_2 : DAt B28 2 (.iconst 0) 1 3 := ⟨by decide +kernel, rfl⟩
theorem d28_3 : DAt B28 3 (.istore_n 3) 1 4 := ⟨by decide +kernel, rfl⟩
theorem d28_4 : DAt B28 4 (.iload_n 3) 1 5 := ⟨by decide +kernel, rfl⟩
theorem d28_5 : DAt B28 5 (.bipush 65) 2 7 := ⟨by decide +kernel, rfl⟩
theorem d28_7 : DAt B28 7 (.if_icmp .ge 92) 3 10 := ⟨by decide +kernel, rfl⟩
theorem d28_10 : DAt B28 10 (.iconst (-1)) 1 11 := ⟨by decide +kernel, rfl⟩
theorem d28_11 : DAt B28 11 (.istore 4) 2 13 := ⟨by decide +kernel, rfl⟩
theorem d28_13 : DAt B28 13 (.iconst 0) 1 14 := ⟨by decide +kernel, rfl⟩
theorem d28_14 : DAt B28 14 (.istore 5) 2 16 := ⟨by decide +kernel, rfl⟩
theorem d28_16 : DAt B28 16 (.iconst 0) 1 17 := ⟨by decide +kernel, rfl⟩
theorem d28_17 : DAt B28 17 (.istore 6) 2 19 := ⟨by decide +kernel, rfl⟩
theorem d28_19 : DAt B28 19 (.iload 6) 2 21 := ⟨by decide +kernel, rfl⟩
theorem d28_21 : DAt B28 21 (.aload_n 0) 1 22 := ⟨by decide +kernel, rfl⟩
theorem d28_22 : DAt B28 22 (.getfield 38) 3 25 := ⟨by decide +kernel, rfl⟩
theorem d28_25 : DAt B28 25 (.if_icmp .ge 48) 3 28 := ⟨by decide +kernel, rfl⟩
theorem d28_28 : DAt B28 28 (.aload_n 0) 1 29 := ⟨by decide +kernel, rfl⟩
theorem d28_29 : DAt B28 29 (.getfield 17) 3 32 := ⟨by decide +kernel, rfl⟩
theorem d28_32 : DAt B28 32 (.iload_n 1) 1 33 := ⟨by decide +kernel, rfl⟩
theorem d28_33 : DAt B28 33 (.bipush 8) 2 35 := ⟨by decide +kernel, rfl⟩
theorem d28_35 : DAt B28 35 (.imul) 1 36 := ⟨by decide +kernel, rfl⟩
theorem d28_36 : DAt B28 36 (.iload 6) 2 38 := ⟨by decide +kernel, rfl⟩
theorem d28_38 : DAt B28 38 (.iadd) 1 39 := ⟨by decide +kernel, rfl⟩
theorem d28_39 : DAt B28 39 (.iaload) 1 40 := ⟨by decide +kernel, rfl⟩
theorem d28_40 : DAt B28 40 (.iconst 1) 1 41 := ⟨by decide +kernel, rfl⟩
theorem d28_41 : DAt B28 41 (.iadd) 1 42 := ⟨by decide +kernel, rfl⟩
theorem d28_42 : DAt B28 42 (.istore 7) 2 44 := ⟨by decide +kernel, rfl⟩
theorem d28_44 : DAt B28 44 (.aload_n 0) 1 45 := ⟨by decide +kernel, rfl⟩
theorem d28_45 : DAt B28 45 (.iload_n 1) 1 46 := ⟨by decide +kernel, rfl⟩
theorem d28_46 : DAt B28 46 (.iload 6) 2 48 := ⟨by decide +kernel, rfl⟩
theorem d28_48 : DAt B28 48 (.iload 7) 2 50 := ⟨by decide +kernel, rfl⟩
theorem d28_50 : DAt B28 50 (.invokevirtual 60) 3 53 := ⟨by decide +kernel, rfl⟩
theorem d28_53 : DAt B28 53 (.ifCond .eq 14) 3 56 := ⟨by decide +kernel, rfl⟩
theorem d28_56 : DAt B28 56 (.iload 6) 2 58 := ⟨by decide +kernel, rfl⟩
theorem d28_58 : DAt B28 58 (.istore 4) 2 60 := ⟨by decide +kernel, rfl⟩
theorem d28_60 : DAt B28 60 (.iload 7) 2 62 := ⟨by decide +kernel, rfl⟩
theorem d28_62 : DAt B28 62 (.istore 5) 2 64 := ⟨by decide +kernel, rfl⟩
theorem d28_64 : DAt B28 64 (.goto 9) 3 67 := ⟨by decide +kernel, rfl⟩
theorem d28_67 : DAt B28 67 (.iinc 6 1) 3 70 := ⟨by decide +kernel, rfl⟩
theorem d28_70 : DAt B28 70 (.goto (-51)) 3 73 := ⟨by decide +kernel, rfl⟩
theorem d28_73 : DAt B28 73 (.iload 4) 2 75 := ⟨by decide +kernel, rfl⟩
theorem d28_75 : DAt B28 75 (.ifCond .ge 6) 3 78 := ⟨by decide +kernel, rfl⟩
theorem d28_78 : DAt B28 78 (.goto 21) 3 81 := ⟨by decide +kernel, rfl⟩
theorem d28_81 : DAt B28 81 (.aload_n 0) 1 82 := ⟨by decide +kernel, rfl⟩
theorem d28_82 : DAt B28 82 (.iload_n 1) 1 83 := ⟨by decide +kernel, rfl⟩
theorem d28_83 : DAt B28 83 (.iload 4) 2 85 := ⟨by decide +kernel, rfl⟩
theorem d28_85 : DAt B28 85 (.iload 5) 2 87 := ⟨by decide +kernel, rfl⟩
theorem d28_87 : DAt B28 87 (.invokevirtual 64) 3 90 := ⟨by decide +kernel, rfl⟩
theorem d28_90 : DAt B28 90 (.iinc 2 1) 3 93 := ⟨by decide +kernel, rfl⟩
theorem d28_93 : DAt B28 93 (.iinc 3 1) 3 96 := ⟨by decide +kernel, rfl⟩
theorem d28_96 : DAt B28 96 (.goto (-92)) 3 99 := ⟨by decide +kernel, rfl⟩
theorem d28_99 : DAt B28 99 (.iload_n 2) 1 100 := ⟨by decide +kernel, rfl⟩
theorem d28_100 : DAt B28 100 (.ireturn) 1 101 := ⟨by decide +kernel, rfl⟩
def B22 : Bdy := ((⟨"CausalStable", "receive", "(III)I"⟩ : MethodName), prog_1_method_14_code, 6, (some .int), ({ frames := 3, cells := 0, slots := 0, locals := 52 } : Room))
theorem d22_0 : DAt B22 0 (.aload_n 0) 1 1 := ⟨by decide +kernel, rfl⟩
theorem d22_1 : DAt B22 1 (.iload_n 1) 1 2 := ⟨by decide +kernel, rfl⟩
theorem d22_2 : DAt B22 2 (.invokevirtual 68) 3 5 := ⟨by decide +kernel, rfl⟩
theorem d22_5 : DAt B22 5 (.ifCond .eq 12) 3 8 := ⟨by decide +kernel, rfl⟩
theorem d22_8 : DAt B22 8 (.aload_n 0) 1 9 := ⟨by decide +kernel, rfl⟩
theorem d22_9 : DAt B22 9 (.iload_n 2) 1 10 := ⟨by decide +kernel, rfl⟩
theorem d22_10 : DAt B22 10 (.iload_n 3) 1 11 := ⟨by decide +kernel, rfl⟩
theorem d22_11 : DAt B22 11 (.invokevirtual 52) 3 14 := ⟨by decide +kernel, rfl⟩
theorem d22_14 : DAt B22 14 (.ifCond .ne 5) 3 17 := ⟨by decide +kernel, rfl⟩
theorem d22_17 : DAt B22 17 (.iconst (-1)) 1 18 := ⟨by decide +kernel, rfl⟩
theorem d22_18 : DAt B22 18 (.ireturn) 1 19 := ⟨by decide +kernel, rfl⟩
theorem d22_19 : DAt B22 19 (.aload_n 0) 1 20 := ⟨by decide +kernel, rfl⟩
theorem d22_20 : DAt B22 20 (.getfield 13) 3 23 := ⟨by decide +kernel, rfl⟩
theorem d22_23 : DAt B22 23 (.iload_n 1) 1 24 := ⟨by decide +kernel, rfl⟩
theorem d22_24 : DAt B22 24 (.baload) 1 25 := ⟨by decide +kernel, rfl⟩
theorem d22_25 : DAt B22 25 (.ifCond .eq 6) 3 28 := ⟨by decide +kernel, rfl⟩
theorem d22_28 : DAt B22 28 (.bipush (-2)) 2 30 := ⟨by decide +kernel, rfl⟩
theorem d22_30 : DAt B22 30 (.ireturn) 1 31 := ⟨by decide +kernel, rfl⟩
theorem d22_31 : DAt B22 31 (.aload_n 0) 1 32 := ⟨by decide +kernel, rfl⟩
theorem d22_32 : DAt B22 32 (.iload_n 2) 1 33 := ⟨by decide +kernel, rfl⟩
theorem d22_33 : DAt B22 33 (.iload_n 3) 1 34 := ⟨by decide +kernel, rfl⟩
theorem d22_34 : DAt B22 34 (.iload_n 1) 1 35 := ⟨by decide +kernel, rfl⟩
theorem d22_35 : DAt B22 35 (.invokevirtual 72) 3 38 := ⟨by decide +kernel, rfl⟩
theorem d22_38 : DAt B22 38 (.istore 4) 2 40 := ⟨by decide +kernel, rfl⟩
theorem d22_40 : DAt B22 40 (.aload_n 0) 1 41 := ⟨by decide +kernel, rfl⟩
theorem d22_41 : DAt B22 41 (.getfield 26) 3 44 := ⟨by decide +kernel, rfl⟩
theorem d22_44 : DAt B22 44 (.iload 4) 2 46 := ⟨by decide +kernel, rfl⟩
theorem d22_46 : DAt B22 46 (.iaload) 1 47 := ⟨by decide +kernel, rfl⟩
theorem d22_47 : DAt B22 47 (.ifCond .ne 6) 3 50 := ⟨by decide +kernel, rfl⟩
theorem d22_50 : DAt B22 50 (.bipush (-4)) 2 52 := ⟨by decide +kernel, rfl⟩
theorem d22_52 : DAt B22 52 (.ireturn) 1 53 := ⟨by decide +kernel, rfl⟩
theorem d22_53 : DAt B22 53 (.aload_n 0) 1 54 := ⟨by decide +kernel, rfl⟩
theorem d22_54 : DAt B22 54 (.getfield 26) 3 57 := ⟨by decide +kernel, rfl⟩
theorem d22_57 : DAt B22 57 (.iload 4) 2 59 := ⟨by decide +kernel, rfl⟩
theorem d22_59 : DAt B22 59 (.aload_n 0) 1 60 := ⟨by decide +kernel, rfl⟩
theorem d22_60 : DAt B22 60 (.getfield 26) 3 63 := ⟨by decide +kernel, rfl⟩
theorem d22_63 : DAt B22 63 (.iload 4) 2 65 := ⟨by decide +kernel, rfl⟩
theorem d22_65 : DAt B22 65 (.iaload) 1 66 := ⟨by decide +kernel, rfl⟩
theorem d22_66 : DAt B22 66 (.iconst 1) 1 67 := ⟨by decide +kernel, rfl⟩
theorem d22_67 : DAt B22 67 (.isub) 1 68 := ⟨by decide +kernel, rfl⟩
theorem d22_68 : DAt B22 68 (.iastore) 1 69 := ⟨by decide +kernel, rfl⟩
theorem d22_69 : DAt B22 69 (.aload_n 0) 1 70 := ⟨by decide +kernel, rfl⟩
theorem d22_70 : DAt B22 70 (.iload_n 1) 1 71 := ⟨by decide +kernel, rfl⟩
theorem d22_71 : DAt B22 71 (.iload_n 2) 1 72 := ⟨by decide +kernel, rfl⟩
theorem d22_72 : DAt B22 72 (.iload_n 3) 1 73 := ⟨by decide +kernel, rfl⟩
theorem d22_73 : DAt B22 73 (.invokevirtual 45) 3 76 := ⟨by decide +kernel, rfl⟩
theorem d22_76 : DAt B22 76 (.istore 5) 2 78 := ⟨by decide +kernel, rfl⟩
theorem d22_78 : DAt B22 78 (.aload_n 0) 1 79 := ⟨by decide +kernel, rfl⟩
theorem d22_79 : DAt B22 79 (.getfield 20) 3 82 := ⟨by decide +kernel, rfl⟩
theorem d22_82 : DAt B22 82 (.iload 5) 2 84 := ⟨by decide +kernel, rfl⟩
theorem d22_84 : DAt B22 84 (.iaload) 1 85 := ⟨by decide +kernel, rfl⟩
theorem d22_85 : DAt B22 85 (.ifCond .eq 6) 3 88 := ⟨by decide +kernel, rfl⟩
theorem d22_88 : DAt B22 88 (.bipush (-5)) 2 90 := ⟨by decide +kernel, rfl⟩
theorem d22_90 : DAt B22 90 (.ireturn) 1 91 := ⟨by decide +kernel, rfl⟩
theorem d22_91 : DAt B22 91 (.aload_n 0) 1 92 := ⟨by decide +kernel, rfl⟩
theorem d22_92 : DAt B22 92 (.getfield 20) 3 95 := ⟨by decide +kernel, rfl⟩
theorem d22_95 : DAt B22 95 (.iload 5) 2 97 := ⟨by decide +kernel, rfl⟩
theorem d22_97 : DAt B22 97 (.iconst 1) 1 98 := ⟨by decide +kernel, rfl⟩
theorem d22_98 : DAt B22 98 (.iastore) 1 99 := ⟨by decide +kernel, rfl⟩
theorem d22_99 : DAt B22 99 (.aload_n 0) 1 100 := ⟨by decide +kernel, rfl⟩
theorem d22_100 : DAt B22 100 (.iload_n 1) 1 101 := ⟨by decide +kernel, rfl⟩
theorem d22_101 : DAt B22 101 (.invokevirtual 75) 3 104 := ⟨by decide +kernel, rfl⟩
theorem d22_104 : DAt B22 104 (.ireturn) 1 105 := ⟨by decide +kernel, rfl⟩
def B19 : Bdy := ((⟨"CausalStable", "duplicate", "(III)I"⟩ : MethodName), prog_1_method_15_code, 5, (some .int), ({ frames := 1, cells := 0, slots := 0, locals := 15 } : Room))
theorem d19_0 : DAt B19 0 (.aload_n 0) 1 1 := ⟨by decide +kernel, rfl⟩
theorem d19_1 : DAt B19 1 (.iload_n 1) 1 2 := ⟨by decide +kernel, rfl⟩
theorem d19_2 : DAt B19 2 (.iload_n 2) 1 3 := ⟨by decide +kernel, rfl⟩
theorem d19_3 : DAt B19 3 (.invokevirtual 52) 3 6 := ⟨by decide +kernel, rfl⟩
theorem d19_6 : DAt B19 6 (.ifCond .eq 11) 3 9 := ⟨by decide +kernel, rfl⟩
theorem d19_9 : DAt B19 9 (.aload_n 0) 1 10 := ⟨by decide +kernel, rfl⟩
theorem d19_10 : DAt B19 10 (.iload_n 3) 1 11 := ⟨by decide +kernel, rfl⟩
theorem d19_11 : DAt B19 11 (.invokevirtual 68) 3 14 := ⟨by decide +kernel, rfl⟩
theorem d19_14 : DAt B19 14 (.ifCond .ne 5) 3 17 := ⟨by decide +kernel, rfl⟩
theorem d19_17 : DAt B19 17 (.iconst (-1)) 1 18 := ⟨by decide +kernel, rfl⟩
theorem d19_18 : DAt B19 18 (.ireturn) 1 19 := ⟨by decide +kernel, rfl⟩
theorem d19_19 : DAt B19 19 (.aload_n 0) 1 20 := ⟨by decide +kernel, rfl⟩
theorem d19_20 : DAt B19 20 (.iload_n 1) 1 21 := ⟨by decide +kernel, rfl⟩
theorem d19_21 : DAt B19 21 (.iload_n 2) 1 22 := ⟨by decide +kernel, rfl⟩
theorem d19_22 : DAt B19 22 (.iload_n 3) 1 23 := ⟨by decide +kernel, rfl⟩
theorem d19_23 : DAt B19 23 (.invokevirtual 72) 3 26 := ⟨by decide +kernel, rfl⟩
theorem d19_26 : DAt B19 26 (.istore 4) 2 28 := ⟨by decide +kernel, rfl⟩
theorem d19_28 : DAt B19 28 (.aload_n 0) 1 29 := ⟨by decide +kernel, rfl⟩
theorem d19_29 : DAt B19 29 (.getfield 26) 3 32 := ⟨by decide +kernel, rfl⟩
theorem d19_32 : DAt B19 32 (.iload 4) 2 34 := ⟨by decide +kernel, rfl⟩
theorem d19_34 : DAt B19 34 (.iaload) 1 35 := ⟨by decide +kernel, rfl⟩
theorem d19_35 : DAt B19 35 (.ifCond .ne 6) 3 38 := ⟨by decide +kernel, rfl⟩
theorem d19_38 : DAt B19 38 (.bipush (-4)) 2 40 := ⟨by decide +kernel, rfl⟩
theorem d19_40 : DAt B19 40 (.ireturn) 1 41 := ⟨by decide +kernel, rfl⟩
theorem d19_41 : DAt B19 41 (.aload_n 0) 1 42 := ⟨by decide +kernel, rfl⟩
theorem d19_42 : DAt B19 42 (.getfield 26) 3 45 := ⟨by decide +kernel, rfl⟩
theorem d19_45 : DAt B19 45 (.iload 4) 2 47 := ⟨by decide +kernel, rfl⟩
theorem d19_47 : DAt B19 47 (.iaload) 1 48 := ⟨by decide +kernel, rfl⟩
theorem d19_48 : DAt B19 48 (.iconst 3) 1 49 := ⟨by decide +kernel, rfl⟩
theorem d19_49 : DAt B19 49 (.if_icmp .lt 6) 3 52 := ⟨by decide +kernel, rfl⟩
theorem d19_52 : DAt B19 52 (.bipush (-3)) 2 54 := ⟨by decide +kernel, rfl⟩
theorem d19_54 : DAt B19 54 (.ireturn) 1 55 := ⟨by decide +kernel, rfl⟩
theorem d19_55 : DAt B19 55 (.aload_n 0) 1 56 := ⟨by decide +kernel, rfl⟩
theorem d19_56 : DAt B19 56 (.getfield 26) 3 59 := ⟨by decide +kernel, rfl⟩
theorem d19_59 : DAt B19 59 (.iload 4) 2 61 := ⟨by decide +kernel, rfl⟩
theorem d19_61 : DAt B19 61 (.aload_n 0) 1 62 := ⟨by decide +kernel, rfl⟩
theorem d19_62 : DAt B19 62 (.getfield 26) 3 65 := ⟨by decide +kernel, rfl⟩
theorem d19_65 : DAt B19 65 (.iload 4) 2 67 := ⟨by decide +kernel, rfl⟩
theorem d19_67 : DAt B19 67 (.iaload) 1 68 := ⟨by decide +kernel, rfl⟩
theorem d19_68 : DAt B19 68 (.iconst 1) 1 69 := ⟨by decide +kernel, rfl⟩
theorem d19_69 : DAt B19 69 (.iadd) 1 70 := ⟨by decide +kernel, rfl⟩
theorem d19_70 : DAt B19 70 (.iastore) 1 71 := ⟨by decide +kernel, rfl⟩
theorem d19_71 : DAt B19 71 (.aload_n 0) 1 72 := ⟨by decide +kernel, rfl⟩
theorem d19_72 : DAt B19 72 (.getfield 26) 3 75 := ⟨by decide +kernel, rfl⟩
theorem d19_75 : DAt B19 75 (.iload 4) 2 77 := ⟨by decide +kernel, rfl⟩
theorem d19_77 : DAt B19 77 (.iaload) 1 78 := ⟨by decide +kernel, rfl⟩
theorem d19_78 : DAt B19 78 (.ireturn) 1 79 := ⟨by decide +kernel, rfl⟩
def B24 : Bdy := ((⟨"CausalStable", "drop", "(III)I"⟩ : MethodName), prog_1_method_16_code, 5, (some .int), ({ frames := 1, cells := 0, slots := 0, locals := 15 } : Room))
theorem d24_0 : DAt B24 0 (.aload_n 0) 1 1 := ⟨by decide +kernel, rfl⟩
theorem d24_1 : DAt B24 1 (.iload_n 1) 1 2 := ⟨by decide +kernel, rfl⟩
theorem d24_2 : DAt B24 2 (.iload_n 2) 1 3 := ⟨by decide +kernel, rfl⟩
theorem d24_3 : DAt B24 3 (.invokevirtual 52) 3 6 := ⟨by decide +kernel, rfl⟩
theorem d24_6 : DAt B24 6 (.ifCond .eq 11) 3 9 := ⟨by decide +kernel, rfl⟩
theorem d24_9 : DAt B24 9 (.aload_n 0) 1 10 := ⟨by decide +kernel, rfl⟩
theorem d24_10 : DAt B24 10 (.iload_n 3) 1 11 := ⟨by decide +kernel, rfl⟩
theorem d24_11 : DAt B24 11 (.invokevirtual 68) 3 14 := ⟨by decide +kernel, rfl⟩
theorem d24_14 : DAt B24 14 (.ifCond .ne 5) 3 17 := ⟨by decide +kernel, rfl⟩
theorem d24_17 : DAt B24 17 (.iconst (-1)) 1 18 := ⟨by decide +kernel, rfl⟩
theorem d24_18 : DAt B24 18 (.ireturn) 1 19 := ⟨by decide +kernel, rfl⟩
theorem d24_19 : DAt B24 19 (.aload_n 0) 1 20 := ⟨by decide +kernel, rfl⟩
theorem d24_20 : DAt B24 20 (.iload_n 1) 1 21 := ⟨by decide +kernel, rfl⟩
theorem d24_21 : DAt B24 21 (.iload_n 2) 1 22 := ⟨by decide +kernel, rfl⟩
theorem d24_22 : DAt B24 22 (.iload_n 3) 1 23 := ⟨by decide +kernel, rfl⟩
theorem d24_23 : DAt B24 23 (.invokevirtual 72) 3 26 := ⟨by decide +kernel, rfl⟩
theorem d24_26 : DAt B24 26 (.istore 4) 2 28 := ⟨by decide +kernel, rfl⟩
theorem d24_28 : DAt B24 28 (.aload_n 0) 1 29 := ⟨by decide +kernel, rfl⟩
theorem d24_29 : DAt B24 29 (.getfield 26) 3 32 := ⟨by decide +kernel, rfl⟩
theorem d24_32 : DAt B24 32 (.iload 4) 2 34 := ⟨by decide +kernel, rfl⟩
theorem d24_34 : DAt B24 34 (.iaload) 1 35 := ⟨by decide +kernel, rfl⟩
theorem d24_35 : DAt B24 35 (.ifCond .ne 6) 3 38 := ⟨by decide +kernel, rfl⟩
theorem d24_38 : DAt B24 38 (.bipush (-4)) 2 40 := ⟨by decide +kernel, rfl⟩
theorem d24_40 : DAt B24 40 (.ireturn) 1 41 := ⟨by decide +kernel, rfl⟩
theorem d24_41 : DAt B24 41 (.aload_n 0) 1 42 := ⟨by decide +kernel, rfl⟩
theorem d24_42 : DAt B24 42 (.getfield 26) 3 45 := ⟨by decide +kernel, rfl⟩
theorem d24_45 : DAt B24 45 (.iload 4) 2 47 := ⟨by decide +kernel, rfl⟩
theorem d24_47 : DAt B24 47 (.aload_n 0) 1 48 := ⟨by decide +kernel, rfl⟩
theorem d24_48 : DAt B24 48 (.getfield 26) 3 51 := ⟨by decide +kernel, rfl⟩
theorem d24_51 : DAt B24 51 (.iload 4) 2 53 := ⟨by decide +kernel, rfl⟩
theorem d24_53 : DAt B24 53 (.iaload) 1 54 := ⟨by decide +kernel, rfl⟩
theorem d24_54 : DAt B24 54 (.iconst 1) 1 55 := ⟨by decide +kernel, rfl⟩
theorem d24_55 : DAt B24 55 (.isub) 1 56 := ⟨by decide +kernel, rfl⟩
theorem d24_56 : DAt B24 56 (.iastore) 1 57 := ⟨by decide +kernel, rfl⟩
theorem d24_57 : DAt B24 57 (.aload_n 0) 1 58 := ⟨by decide +kernel, rfl⟩
theorem d24_58 : DAt B24 58 (.getfield 26) 3 61 := ⟨by decide +kernel, rfl⟩
theorem d24_61 : DAt B24 61 (.iload 4) 2 63 := ⟨by decide +kernel, rfl⟩
theorem d24_63 : DAt B24 63 (.iaload) 1 64 := ⟨by decide +kernel, rfl⟩
theorem d24_64 : DAt B24 64 (.ireturn) 1 65 := ⟨by decide +kernel, rfl⟩
def B25 : Bdy := ((⟨"CausalStable", "retransmit", "(IIII)I"⟩ : MethodName), prog_1_method_17_code, 7, (some .int), ({ frames := 1, cells := 0, slots := 0, locals := 15 } : Room))
theorem d25_0 : DAt B25 0 (.aload_n 0) 1 1 := ⟨by decide +kernel, rfl⟩
theorem d25_1 : DAt B25 1 (.iload_n 1) 1 2 := ⟨by decide +kernel, rfl⟩
theorem d25_2 : DAt B25 2 (.invokevirtual 68) 3 5 := ⟨by decide +kernel, rfl⟩
theorem d25_5 : DAt B25 5 (.ifCond .eq 26) 3 8 := ⟨by decide +kernel, rfl⟩
theorem d25_8 : DAt B25 8 (.aload_n 0) 1 9 := ⟨by decide +kernel, rfl⟩
theorem d25_9 : DAt B25 9 (.iload_n 2) 1 10 := ⟨by decide +kernel, rfl⟩
theorem d25_10 : DAt B25 10 (.invokevirtual 68) 3 13 := ⟨by decide +kernel, rfl⟩
theorem d25_13 : DAt B25 13 (.ifCond .eq 18) 3 16 := ⟨by decide +kernel, rfl⟩
theorem d25_16 : DAt B25 16 (.iload_n 1) 1 17 := ⟨by decide +kernel, rfl⟩
theorem d25_17 : DAt B25 17 (.iload_n 2) 1 18 := ⟨by decide +kernel, rfl⟩
theorem d25_18 : DAt B25 18 (.if_icmp .eq 13) 3 21 := ⟨by decide +kernel, rfl⟩
theorem d25_21 : DAt B25 21 (.aload_n 0) 1 22 := ⟨by decide +kernel, rfl⟩
theorem d25_22 : DAt B25 22 (.iload_n 3) 1 23 := ⟨by decide +kernel, rfl⟩
theorem d25_23 : DAt B25 23 (.iload 4) 2 25 := ⟨by decide +kernel, rfl⟩
theorem d25_25 : DAt B25 25 (.invokevirtual 52) 3 28 := ⟨by decide +kernel, rfl⟩
theorem d25_28 : DAt B25 28 (.ifCond .ne 5) 3 31 := ⟨by decide +kernel, rfl⟩
theorem d25_31 : DAt B25 31 (.iconst (-1)) 1 32 := ⟨by decide +kernel, rfl⟩
theorem d25_32 : DAt B25 32 (.ireturn) 1 33 := ⟨by decide +kernel, rfl⟩
theorem d25_33 : DAt B25 33 (.aload_n 0) 1 34 := ⟨by decide +kernel, rfl⟩
theorem d25_34 : DAt B25 34 (.getfield 13) 3 37 := ⟨by decide +kernel, rfl⟩
theorem d25_37 : DAt B25 37 (.iload_n 1) 1 38 := ⟨by decide +kernel, rfl⟩
theorem d25_38 : DAt B25 38 (.baload) 1 39 := ⟨by decide +kernel, rfl⟩
theorem d25_39 : DAt B25 39 (.ifCond .ne 12) 3 42 := ⟨by decide +kernel, rfl⟩
theorem d25_42 : DAt B25 42 (.aload_n 0) 1 43 := ⟨by decide +kernel, rfl⟩
theorem d25_43 : DAt B25 43 (.getfield 13) 3 46 := ⟨by decide +kernel, rfl⟩
theorem d25_46 : DAt B25 46 (.iload_n 2) 1 47 := ⟨by decide +kernel, rfl⟩
theorem d25_47 : DAt B25 47 (.baload) 1 48 := ⟨by decide +kernel, rfl⟩
theorem d25_48 : DAt B25 48 (.ifCond .eq 6) 3 51 := ⟨by decide +kernel, rfl⟩
theorem d25_51 : DAt B25 51 (.bipush (-2)) 2 53 := ⟨by decide +kernel, rfl⟩
theorem d25_53 : DAt B25 53 (.ireturn) 1 54 := ⟨by decide +kernel, rfl⟩
theorem d25_54 : DAt B25 54 (.aload_n 0) 1 55 := ⟨by decide +kernel, rfl⟩
theorem d25_55 : DAt B25 55 (.iload_n 1) 1 56 := ⟨by decide +kernel, rfl⟩
theorem d25_56 : DAt B25 56 (.iload_n 3) 1 57 := ⟨by decide +kernel, rfl⟩
theorem d25_57 : DAt B25 57 (.iload 4) 2 59 := ⟨by decide +kernel, rfl⟩
theorem d25_59 : DAt B25 59 (.invokevirtual 45) 3 62 := ⟨by decide +kernel, rfl⟩
theorem d25_62 : DAt B25 62 (.istore 5) 2 64 := ⟨by decide +kernel, rfl⟩
theorem d25_64 : DAt B25 64 (.aload_n 0) 1 65 := ⟨by decide +kernel, rfl⟩
theorem d25_65 : DAt B25 65 (.getfield 20) 3 68 := ⟨by decide +kernel, rfl⟩
theorem d25_68 : DAt B25 68 (.iload 5) 2 70 := ⟨by decide +kernel, rfl⟩
theorem d25_70 : DAt B25 70 (.iaload) 1 71 := ⟨by decide +kernel, rfl⟩
theorem d25_71 : DAt B25 71 (.iconst 2) 1 72 := ⟨by decide +kernel, rfl⟩
theorem d25_72 : DAt B25 72 (.if_icmp .eq 6) 3 75 := ⟨by decide +kernel, rfl⟩
theorem d25_75 : DAt B25 75 (.bipush (-6)) 2 77 := ⟨by decide +kernel, rfl⟩
theorem d25_77 : DAt B25 77 (.ireturn) 1 78 := ⟨by decide +kernel, rfl⟩
theorem d25_78 : DAt B25 78 (.aload_n 0) 1 79 := ⟨by decide +kernel, rfl⟩
theorem d25_79 : DAt B25 79 (.iload_n 3) 1 80 := ⟨by decide +kernel, rfl⟩
theorem d25_80 : DAt B25 80 (.iload 4) 2 82 := ⟨by decide +kernel, rfl⟩
theorem d25_82 : DAt B25 82 (.iload_n 2) 1 83 := ⟨by decide +kernel, rfl⟩
theorem d25_83 : DAt B25 83 (.invokevirtual 72) 3 86 := ⟨by decide +kernel, rfl⟩
theorem d25_86 : DAt B25 86 (.istore 6) 2 88 := ⟨by decide +kernel, rfl⟩
theorem d25_88 : DAt B25 88 (.aload_n 0) 1 89 := ⟨by decide +kernel, rfl⟩
theorem d25_89 : DAt B25 89 (.getfield 26) 3 92 := ⟨by decide +kernel, rfl⟩
theorem d25_92 : DAt B25 92 (.iload 6) 2 94 := ⟨by decide +kernel, rfl⟩
theorem d25_94 : DAt B25 94 (.iaload) 1 95 := ⟨by decide +kernel, rfl⟩
theorem d25_95 : DAt B25 95 (.iconst 3) 1 96 := ⟨by decide +kernel, rfl⟩
theorem d25_96 : DAt B25 96 (.if_icmp .lt 6) 3 99 := ⟨by decide +kernel, rfl⟩
theorem d25_99 : DAt B25 99 (.bipush (-3)) 2 101 := ⟨by decide +kernel, rfl⟩
theorem d25_101 : DAt B25 101 (.ireturn) 1 102 := ⟨by decide +kernel, rfl⟩
theorem d25_102 : DAt B25 102 (.aload_n 0) 1 103 := ⟨by decide +kernel, rfl⟩
theorem d25_103 : DAt B25 103 (.getfield 26) 3 106 := ⟨by decide +kernel, rfl⟩
theorem d25_106 : DAt B25 106 (.iload 6) 2 108 := ⟨by decide +kernel, rfl⟩
theorem d25_108 : DAt B25 108 (.aload_n 0) 1 109 := ⟨by decide +kernel, rfl⟩
theorem d25_109 : DAt B25 109 (.getfield 26) 3 112 := ⟨by decide +kernel, rfl⟩
theorem d25_112 : DAt B25 112 (.iload 6) 2 114 := ⟨by decide +kernel, rfl⟩
theorem d25_114 : DAt B25 114 (.iaload) 1 115 := ⟨by decide +kernel, rfl⟩
theorem d25_115 : DAt B25 115 (.iconst 1) 1 116 := ⟨by decide +kernel, rfl⟩
theorem d25_116 : DAt B25 116 (.iadd) 1 117 := ⟨by decide +kernel, rfl⟩
theorem d25_117 : DAt B25 117 (.iastore) 1 118 := ⟨by decide +kernel, rfl⟩
theorem d25_118 : DAt B25 118 (.iconst 0) 1 119 := ⟨by decide +kernel, rfl⟩
theorem d25_119 : DAt B25 119 (.ireturn) 1 120 := ⟨by decide +kernel, rfl⟩
def B26 : Bdy := ((⟨"CausalStable", "gossip", "(II)I"⟩ : MethodName), prog_1_method_18_code, 7, (some .int), ({ frames := 1, cells := 0, slots := 0, locals := 13 } : Room))
theorem d26_0 : DAt B26 0 (.aload_n 0) 1 1 := ⟨by decide +kernel, rfl⟩
theorem d26_1 : DAt B26 1 (.iload_n 1) 1 2 := ⟨by decide +kernel, rfl⟩
theorem d26_2 : DAt B26 2 (.invokevirtual 68) 3 5 := ⟨by decide +kernel, rfl⟩
theorem d26_5 : DAt B26 5 (.ifCond .eq 16) 3 8 := ⟨by decide +kernel, rfl⟩
theorem d26_8 : DAt B26 8 (.aload_n 0) 1 9 := ⟨by decide +kernel, rfl⟩
theorem d26_9 : DAt B26 9 (.iload_n 2) 1 10 := ⟨by decide +kernel, rfl⟩
theorem d26_10 : DAt B26 10 (.invokevirtual 68) 3 13 := ⟨by decide +kernel, rfl⟩
theorem d26_13 : DAt B26 13 (.ifCond .eq 8) 3 16 := ⟨by decide +kernel, rfl⟩
theorem d26_16 : DAt B26 16 (.iload_n 1) 1 17 := ⟨by decide +kernel, rfl⟩
theorem d26_17 : DAt B26 17 (.iload_n 2) 1 18 := ⟨by decide +kernel, rfl⟩
theorem d26_18 : DAt B26 18 (.if_icmp .ne 5) 3 21 := ⟨by decide +kernel, rfl⟩
theorem d26_21 : DAt B26 21 (.iconst (-1)) 1 22 := ⟨by decide +kernel, rfl⟩
theorem d26_22 : DAt B26 22 (.ireturn) 1 23 := ⟨by decide +kernel, rfl⟩
theorem d26_23 : DAt B26 23 (.aload_n 0) 1 24 := ⟨by decide +kernel, rfl⟩
theorem d26_24 : DAt B26 24 (.getfield 13) 3 27 := ⟨by decide +kernel, rfl⟩
theorem d26_27 : DAt B26 27 (.iload_n 1) 1 28 := ⟨by decide +kernel, rfl⟩
theorem d26_28 : DAt B26 28 (.baload) 1 29 := ⟨by decide +kernel, rfl⟩
theorem d26_29 : DAt B26 29 (.ifCond .ne 12) 3 32 := ⟨by decide +kernel, rfl⟩
theorem d26_32 : DAt B26 32 (.aload_n 0) 1 33 := ⟨by decide +kernel, rfl⟩
theorem d26_33 : DAt B26 33 (.getfield 13) 3 36 := ⟨by decide +kernel, rfl⟩
theorem d26_36 : DAt B26 36 (.iload_n 2) 1 37 := ⟨by decide +kernel, rfl⟩
theorem d26_37 : DAt B26 37 (.baload) 1 38 := ⟨by decide +kernel, rfl⟩
theorem d26_38 : DAt B26 38 (.ifCond .eq 6) 3 41 := ⟨by decide +kernel, rfl⟩
theorem d26_41 : DAt B26 41 (.bipush (-2)) 2 43 := ⟨by decide +kernel, rfl⟩
theorem d26_43 : DAt B26 43 (.ireturn) 1 44 := ⟨by decide +kernel, rfl⟩
theorem d26_44 : DAt B26 44 (.iconst 0) 1 45 := ⟨by decide +kernel, rfl⟩
theorem d26_45 : DAt B26 45 (.istore_n 3) 1 46 := ⟨by decide +kernel, rfl⟩
theorem d26_46 : DAt B26 46 (.iload_n 3) 1 47 := ⟨by decide +kernel, rfl⟩
theorem d26_47 : DAt B26 47 (.aload_n 0) 1 48 := ⟨by decide +kernel, rfl⟩
theorem d26_48 : DAt B26 48 (.getfield 38) 3 51 := ⟨by decide +kernel, rfl⟩
theorem d26_51 : DAt B26 51 (.if_icmp .ge 86) 3 54 := ⟨by decide +kernel, rfl⟩
theorem d26_54 : DAt B26 54 (.iconst 0) 1 55 := ⟨by decide +kernel, rfl⟩
theorem d26_55 : DAt B26 55 (.istore 4) 2 57 := ⟨by decide +kernel, rfl⟩
theorem d26_57 : DAt B26 57 (.iload 4) 2 59 := ⟨by decide +kernel, rfl⟩
theorem d26_59 : DAt B26 59 (.aload_n 0) 1 60 := ⟨by decide +kernel, rfl⟩
theorem d26_60 : DAt B26 60 (.getfield 38) 3 63 := ⟨by decide +kernel, rfl⟩
theorem d26_63 : DAt B26 63 (.if_icmp .ge 68) 3 66 := ⟨by decide +kernel, rfl⟩
theorem d26_66 : DAt B26 66 (.iload_n 2) 1 67 := ⟨by decide +kernel, rfl⟩
theorem d26_67 : DAt B26 67 (.bipush 64) 2 69 := ⟨by decide +kernel, rfl⟩
theorem d26_69 : DAt B26 69 (.imul) 1 70 := ⟨by decide +kernel, rfl⟩
theorem d26_70 : DAt B26 70 (.iload_n 3) 1 71 := ⟨by decide +kernel, rfl⟩
theorem d26_71 : DAt B26 71 (.bipush 8) 2 73 := ⟨by decide +kernel, rfl⟩
theorem d26_73 : DAt B26 73 (.imul) 1 74 := ⟨by decide +kernel, rfl⟩
theorem d26_74 : DAt B26 74 (.iadd) 1 75 := ⟨by decide +kernel, rfl⟩
theorem d26_75 : DAt B26 75 (.iload 4) 2 77 := ⟨by decide +kernel, rfl⟩
theorem d26_77 : DAt B26 77 (.iadd) 1 78 := ⟨by decide +kernel, rfl⟩
theorem d26_78 : DAt B26 78 (.istore 5) 2 80 := ⟨by decide +kernel, rfl⟩
theorem d26_80 : DAt B26 80 (.iload_n 1) 1 81 := ⟨by decide +kernel, rfl⟩
theorem d26_81 : DAt B26 81 (.bipush 64) 2 83 := ⟨by decide +kernel, rfl⟩
theorem d26_83 : DAt B26 83 (.imul) 1 84 := ⟨by decide +kernel, rfl⟩
theorem d26_84 : DAt B26 84 (.iload_n 3) 1 85 := ⟨by decide +kernel, rfl⟩
theorem d26_85 : DAt B26 85 (.bipush 8) 2 87 := ⟨by decide +kernel, rfl⟩
theorem d26_87 : DAt B26 87 (.imul) 1 88 := ⟨by decide +kernel, rfl⟩
theorem d26_88 : DAt B26 88 (.iadd) 1 89 := ⟨by decide +kernel, rfl⟩
theorem d26_89 : DAt B26 89 (.iload 4) 2 91 := ⟨by decide +kernel, rfl⟩
theorem d26_91 : DAt B26 91 (.iadd) 1 92 := ⟨by decide +kernel, rfl⟩
theorem d26_92 : DAt B26 92 (.istore 6) 2 94 := ⟨by decide +kernel, rfl⟩
theorem d26_94 : DAt B26 94 (.aload_n 0) 1 95 := ⟨by decide +kernel, rfl⟩
theorem d26_95 : DAt B26 95 (.getfield 29) 3 98 := ⟨by decide +kernel, rfl⟩
theorem d26_98 : DAt B26 98 (.iload 6) 2 100 := ⟨by decide +kernel, rfl⟩
theorem d26_100 : DAt B26 100 (.iaload) 1 101 := ⟨by decide +kernel, rfl⟩
theorem d26_101 : DAt B26 101 (.aload_n 0) 1 102 := ⟨by decide +kernel, rfl⟩
theorem d26_102 : DAt B26 102 (.getfield 29) 3 105 := ⟨by decide +kernel, rfl⟩
theorem d26_105 : DAt B26 105 (.iload 5) 2 107 := ⟨by decide +kernel, rfl⟩
theorem d26_107 : DAt B26 107 (.iaload) 1 108 := ⟨by decide +kernel, rfl⟩
theorem d26_108 : DAt B26 108 (.if_icmp .le 17) 3 111 := ⟨by decide +kernel, rfl⟩
theorem d26_111 : DAt B26 111 (.aload_n 0) 1 112 := ⟨by decide +kernel, rfl⟩
theorem d26_112 : DAt B26 112 (.getfield 29) 3 115 := ⟨by decide +kernel, rfl⟩
theorem d26_115 : DAt B26 115 (.iload 5) 2 117 := ⟨by decide +kernel, rfl⟩
theorem d26_117 : DAt B26 117 (.aload_n 0) 1 118 := ⟨by decide +kernel, rfl⟩
theorem d26_118 : DAt B26 118 (.getfield 29) 3 121 := ⟨by decide +kernel, rfl⟩
theorem d26_121 : DAt B26 121 (.iload 6) 2 123 := ⟨by decide +kernel, rfl⟩
theorem d26_123 : DAt B26 123 (.iaload) 1 124 := ⟨by decide +kernel, rfl⟩
theorem d26_124 : DAt B26 124 (.iastore) 1 125 := ⟨by decide +kernel, rfl⟩
theorem d26_125 : DAt B26 125 (.iinc 4 1) 3 128 := ⟨by decide +kernel, rfl⟩
theorem d26_128 : DAt B26 128 (.goto (-71)) 3 131 := ⟨by decide +kernel, rfl⟩
theorem d26_131 : DAt B26 131 (.iinc 3 1) 3 134 := ⟨by decide +kernel, rfl⟩
theorem d26_134 : DAt B26 134 (.goto (-88)) 3 137 := ⟨by decide +kernel, rfl⟩
theorem d26_137 : DAt B26 137 (.iconst 0) 1 138 := ⟨by decide +kernel, rfl⟩
theorem d26_138 : DAt B26 138 (.ireturn) 1 139 := ⟨by decide +kernel, rfl⟩
def B27 : Bdy := ((⟨"CausalStable", "isStable", "(III)Z"⟩ : MethodName), prog_1_method_11_code, 6, (some .boolean), ({ frames := 1, cells := 0, slots := 0, locals := 15 } : Room))
theorem d27_0 : DAt B27 0 (.iconst 0) 1 1 := ⟨by decide +kernel, rfl⟩
theorem d27_1 : DAt B27 1 (.istore 4) 2 3 := ⟨by decide +kernel, rfl⟩
theorem d27_3 : DAt B27 3 (.iload 4) 2 5 := ⟨by decide +kernel, rfl⟩
theorem d27_5 : DAt B27 5 (.aload_n 0) 1 6 := ⟨by decide +kernel, rfl⟩
theorem d27_6 : DAt B27 6 (.getfield 38) 3 9 := ⟨by decide +kernel, rfl⟩
theorem d27_9 : DAt B27 9 (.if_icmp .ge 42) 3 12 := ⟨by decide +kernel, rfl⟩
theorem d27_12 : DAt B27 12 (.aload_n 0) 1 13 := ⟨by decide +kernel, rfl⟩
theorem d27_13 : DAt B27 13 (.getfield 13) 3 16 := ⟨by decide +kernel, rfl⟩
theorem d27_16 : DAt B27 16 (.iload 4) 2 18 := ⟨by decide +kernel, rfl⟩
theorem d27_18 : DAt B27 18 (.baload) 1 19 := ⟨by decide +kernel, rfl⟩
theorem d27_19 : DAt B27 19 (.ifCond .ne 26) 3 22 := ⟨by decide +kernel, rfl⟩
theorem d27_22 : DAt B27 22 (.aload_n 0) 1 23 := ⟨by decide +kernel, rfl⟩
theorem d27_23 : DAt B27 23 (.iload_n 1) 1 24 := ⟨by decide +kernel, rfl⟩
theorem d27_24 : DAt B27 24 (.iload 4) 2 26 := ⟨by decide +kernel, rfl⟩
theorem d27_26 : DAt B27 26 (.iload_n 2) 1 27 := ⟨by decide +kernel, rfl⟩
theorem d27_27 : DAt B27 27 (.invokevirtual 49) 3 30 := ⟨by decide +kernel, rfl⟩
theorem d27_30 : DAt B27 30 (.istore 5) 2 32 := ⟨by decide +kernel, rfl⟩
theorem d27_32 : DAt B27 32 (.aload_n 0) 1 33 := ⟨by decide +kernel, rfl⟩
theorem d27_33 : DAt B27 33 (.getfield 29) 3 36 := ⟨by decide +kernel, rfl⟩
theorem d27_36 : DAt B27 36 (.iload 5) 2 38 := ⟨by decide +kernel, rfl⟩
theorem d27_38 : DAt B27 38 (.iaload) 1 39 := ⟨by decide +kernel, rfl⟩
theorem d27_39 : DAt B27 39 (.iload_n 3) 1 40 := ⟨by decide +kernel, rfl⟩
theorem d27_40 : DAt B27 40 (.if_icmp .ge 5) 3 43 := ⟨by decide +kernel, rfl⟩
theorem d27_43 : DAt B27 43 (.iconst 0) 1 44 := ⟨by decide +kernel, rfl⟩
theorem d27_44 : DAt B27 44 (.ireturn) 1 45 := ⟨by decide +kernel, rfl⟩
theorem d27_45 : DAt B27 45 (.iinc 4 1) 3 48 := ⟨by decide +kernel, rfl⟩
theorem d27_48 : DAt B27 48 (.goto (-45)) 3 51 := ⟨by decide +kernel, rfl⟩
theorem d27_51 : DAt B27 51 (.iconst 1) 1 52 := ⟨by decide +kernel, rfl⟩
theorem d27_52 : DAt B27 52 (.ireturn) 1 53 := ⟨by decide +kernel, rfl⟩
def B23 : Bdy := ((⟨"CausalStable", "prune", "(I)I"⟩ : MethodName), prog_1_method_19_code, 7, (some .int), ({ frames := 2, cells := 0, slots := 0, locals := 32 } : Room))
theorem d23_0 : DAt B23 0 (.aload_n 0) 1 1 := ⟨by decide +kernel, rfl⟩
theorem d23_1 : DAt B23 1 (.iload_n 1) 1 2 := ⟨by decide +kernel, rfl⟩
theorem d23_2 : DAt B23 2 (.invokevirtual 68) 3 5 := ⟨by decide +kernel, rfl⟩
theorem d23_5 : DAt B23 5 (.ifCond .ne 5) 3 8 := ⟨by decide +kernel, rfl⟩
theorem d23_8 : DAt B23 8 (.iconst (-1)) 1 9 := ⟨by decide +kernel, rfl⟩
theorem d23_9 : DAt B23 9 (.ireturn) 1 10 := ⟨by decide +kernel, rfl⟩
theorem d23_10 : DAt B23 10 (.aload_n 0) 1 11 := ⟨by decide +kernel, rfl⟩
theorem d23_11 : DAt B23 11 (.getfield 13) 3 14 := ⟨by decide +kernel, rfl⟩
theorem d23_14 : DAt B23 14 (.iload_n 1) 1 15 := ⟨by decide +kernel, rfl⟩
theorem d23_15 : DAt B23 15 (.baload) 1 16 := ⟨by decide +kernel, rfl⟩
theorem d23_16 : DAt B23 16 (.ifCond .eq 6) 3 19 := ⟨by decide +kernel, rfl⟩
theorem d23_19 : DAt B23 19 (.bipush (-2)) 2 21 := ⟨by decide +kernel, rfl⟩
theorem d23_21 : DAt B23 21 (.ireturn) 1 22 := ⟨by decide +kernel, rfl⟩
theorem d23_22 : DAt B23 22 (.iconst 0) 1 23 := ⟨by decide +kernel, rfl⟩
theorem d23_23 : DAt B23 23 (.istore_n 2) 1 24 := ⟨by decide +kernel, rfl⟩
theorem d23_24 : DAt B23 24 (.iconst 0) 1 25 := ⟨by decide +kernel, rfl⟩
theorem d23_25 : DAt B23 25 (.istore_n 3) 1 26 := ⟨by decide +kernel, rfl⟩
theorem d23_26 : DAt B23 26 (.iload_n 3) 1 27 := ⟨by decide +kernel, rfl⟩
theorem d23_27 : DAt B23 27 (.aload_n 0) 1 28 := ⟨by decide +kernel, rfl⟩
theorem d23_28 : DAt B23 28 (.getfield 38) 3 31 := ⟨by decide +kernel, rfl⟩
theorem d23_31 : DAt B23 31 (.if_icmp .ge 83) 3 34 := ⟨by decide +kernel, rfl⟩
theorem d23_34 : DAt B23 34 (.aload_n 0) 1 35 := ⟨by decide +kernel, rfl⟩
theorem d23_35 : DAt B23 35 (.getfield 7) 3 38 := ⟨by decide +kernel, rfl⟩
theorem d23_38 : DAt B23 38 (.iload_n 3) 1 39 := ⟨by decide +kernel, rfl⟩
theorem d23_39 : DAt B23 39 (.iaload) 1 40 := ⟨by decide +kernel, rfl⟩
theorem d23_40 : DAt B23 40 (.istore 4) 2 42 := ⟨by decide +kernel, rfl⟩
theorem d23_42 : DAt B23 42 (.iconst 1) 1 43 := ⟨by decide +kernel, rfl⟩
theorem d23_43 : DAt B23 43 (.istore 5) 2 45 := ⟨by decide +kernel, rfl⟩
theorem d23_45 : DAt B23 45 (.iload 5) 2 47 := ⟨by decide +kernel, rfl⟩
theorem d23_47 : DAt B23 47 (.iload 4) 2 49 := ⟨by decide +kernel, rfl⟩
theorem d23_49 : DAt B23 49 (.if_icmp .gt 59) 3 52 := ⟨by decide +kernel, rfl⟩
theorem d23_52 : DAt B23 52 (.iload 5) 2 54 := ⟨by decide +kernel, rfl⟩
theorem d23_54 : DAt B23 54 (.bipush 8) 2 56 := ⟨by decide +kernel, rfl⟩
theorem d23_56 : DAt B23 56 (.if_icmp .gt 52) 3 59 := ⟨by decide +kernel, rfl⟩
theorem d23_59 : DAt B23 59 (.aload_n 0) 1 60 := ⟨by decide +kernel, rfl⟩
theorem d23_60 : DAt B23 60 (.iload_n 1) 1 61 := ⟨by decide +kernel, rfl⟩
theorem d23_61 : DAt B23 61 (.iload_n 3) 1 62 := ⟨by decide +kernel, rfl⟩
theorem d23_62 : DAt B23 62 (.iload 5) 2 64 := ⟨by decide +kernel, rfl⟩
theorem d23_64 : DAt B23 64 (.invokevirtual 45) 3 67 := ⟨by decide +kernel, rfl⟩
theorem d23_67 : DAt B23 67 (.istore 6) 2 69 := ⟨by decide +kernel, rfl⟩
theorem d23_69 : DAt B23 69 (.aload_n 0) 1 70 := ⟨by decide +kernel, rfl⟩
theorem d23_70 : DAt B23 70 (.getfield 20) 3 73 := ⟨by decide +kernel, rfl⟩
theorem d23_73 : DAt B23 73 (.iload 6) 2 75 := ⟨by decide +kernel, rfl⟩
theorem d23_75 : DAt B23 75 (.iaload) 1 76 := ⟨by decide +kernel, rfl⟩
theorem d23_76 : DAt B23 76 (.iconst 2) 1 77 := ⟨by decide +kernel, rfl⟩
theorem d23_77 : DAt B23 77 (.if_icmp .ne 25) 3 80 := ⟨by decide +kernel, rfl⟩
theorem d23_80 : DAt B23 80 (.aload_n 0) 1 81 := ⟨by decide +kernel, rfl⟩
theorem d23_81 : DAt B23 81 (.iload_n 1) 1 82 := ⟨by decide +kernel, rfl⟩
theorem d23_82 : DAt B23 82 (.iload_n 3) 1 83 := ⟨by decide +kernel, rfl⟩
theorem d23_83 : DAt B23 83 (.iload 5) 2 85 := ⟨by decide +kernel, rfl⟩
theorem d23_85 : DAt B23 85 (.invokevirtual 79) 3 88 := ⟨by decide +kernel, rfl⟩
theorem d23_88 : DAt B23 88 (.ifCond .eq 14) 3 91 := ⟨by decide +kernel, rfl⟩
theorem d23_91 : DAt B23 91 (.aload_n 0) 1 92 := ⟨by decide +kernel, rfl⟩
theorem d23_92 : DAt B23 92 (.getfield 20) 3 95 := ⟨by decide +kernel, rfl⟩
theorem d23_95 : DAt B23 95 (.iload 6) 2 97 := ⟨by decide +kernel, rfl⟩
theorem d23_97 : DAt B23 97 (.iconst 3) 1 98 := ⟨by decide +kernel, rfl⟩
theorem d23_98 : DAt B23 98 (.iastore) 1 99 := ⟨by decide +kernel, rfl⟩
theorem d23_99 : DAt B23 99 (.iinc 2 1) 3 102 := ⟨by decide +kernel, rfl⟩
theorem d23_102 : DAt B23 102 (.iinc 5 1) 3 105 := ⟨by decide +kernel, rfl⟩
theorem d23_105 : DAt B23 105 (.goto (-60)) 3 108 := ⟨by decide +kernel, rfl⟩
theorem d23_108 : DAt B23 108 (.iinc 3 1) 3 111 := ⟨by decide +kernel, rfl⟩
theorem d23_111 : DAt B23 111 (.goto (-85)) 3 114 := ⟨by decide +kernel, rfl⟩
theorem d23_114 : DAt B23 114 (.iload_n 2) 1 115 := ⟨by decide +kernel, rfl⟩
theorem d23_115 : DAt B23 115 (.ireturn) 1 116 := ⟨by decide +kernel, rfl⟩
def B21 : Bdy := ((⟨"CausalStable", "othersAllCrashed", "(I)Z"⟩ : MethodName), prog_1_method_12_code, 3, (some .boolean), ({ frames := 0, cells := 0, slots := 0, locals := 0 } : Room))
theorem d21_0 : DAt B21 0 (.iconst 0) 1 1 := ⟨by decide +kernel, rfl⟩
theorem d21_1 : DAt B21 1 (.istore_n 2) 1 2 := ⟨by decide +kernel, rfl⟩
theorem d21_2 : DAt B21 2 (.iload_n 2) 1 3 := ⟨by decide +kernel, rfl⟩
theorem d21_3 : DAt B21 3 (.aload_n 0) 1 4 := ⟨by decide +kernel, rfl⟩
theorem d21_4 : DAt B21 4 (.getfield 38) 3 7 := ⟨by decide +kernel, rfl⟩
theorem d21_7 : DAt B21 7 (.if_icmp .ge 25) 3 10 := ⟨by decide +kernel, rfl⟩
theorem d21_10 : DAt B21 10 (.iload_n 2) 1 11 := ⟨by decide +kernel, rfl⟩
theorem d21_11 : DAt B21 11 (.iload_n 1) 1 12 := ⟨by decide +kernel, rfl⟩
theorem d21_12 : DAt B21 12 (.if_icmp .eq 14) 3 15 := ⟨by decide +kernel, rfl⟩
theorem d21_15 : DAt B21 15 (.aload_n 0) 1 16 := ⟨by decide +kernel, rfl⟩
theorem d21_16 : DAt B21 16 (.getfield 13) 3 19 := ⟨by decide +kernel, rfl⟩
theorem d21_19 : DAt B21 19 (.iload_n 2) 1 20 := ⟨by decide +kernel, rfl⟩
theorem d21_20 : DAt B21 20 (.baload) 1 21 := ⟨by decide +kernel, rfl⟩
theorem d21_21 : DAt B21 21 (.ifCond .ne 5) 3 24 := ⟨by decide +kernel, rfl⟩
theorem d21_24 : DAt B21 24 (.iconst 0) 1 25 := ⟨by decide +kernel, rfl⟩
theorem d21_25 : DAt B21 25 (.ireturn) 1 26 := ⟨by decide +kernel, rfl⟩
theorem d21_26 : DAt B21 26 (.iinc 2 1) 3 29 := ⟨by decide +kernel, rfl⟩
theorem d21_29 : DAt B21 29 (.goto (-27)) 3 32 := ⟨by decide +kernel, rfl⟩
theorem d21_32 : DAt B21 32 (.iconst 1) 1 33 := ⟨by decide +kernel, rfl⟩
theorem d21_33 : DAt B21 33 (.ireturn) 1 34 := ⟨by decide +kernel, rfl⟩
def B20 : Bdy := ((⟨"CausalStable", "crash", "(I)I"⟩ : MethodName), prog_1_method_20_code, 2, (some .int), ({ frames := 1, cells := 0, slots := 0, locals := 14 } : Room))
theorem d20_0 : DAt B20 0 (.aload_n 0) 1 1 := ⟨by decide +kernel, rfl⟩
theorem d20_1 : DAt B20 1 (.iload_n 1) 1 2 := ⟨by decide +kernel, rfl⟩
theorem d20_2 : DAt B20 2 (.invokevirtual 68) 3 5 := ⟨by decide +kernel, rfl⟩
theorem d20_5 : DAt B20 5 (.ifCond .ne 5) 3 8 := ⟨by decide +kernel, rfl⟩
theorem d20_8 : DAt B20 8 (.iconst (-1)) 1 9 := ⟨by decide +kernel, rfl⟩
theorem d20_9 : DAt B20 9 (.ireturn) 1 10 := ⟨by decide +kernel, rfl⟩
theorem d20_10 : DAt B20 10 (.aload_n 0) 1 11 := ⟨by decide +kernel, rfl⟩
theorem d20_11 : DAt B20 11 (.getfield 13) 3 14 := ⟨by decide +kernel, rfl⟩
theorem d20_14 : DAt B20 14 (.iload_n 1) 1 15 := ⟨by decide +kernel, rfl⟩
theorem d20_15 : DAt B20 15 (.baload) 1 16 := ⟨by decide +kernel, rfl⟩
theorem d20_16 : DAt B20 16 (.ifCond .eq 6) 3 19 := ⟨by decide +kernel, rfl⟩
theorem d20_19 : DAt B20 19 (.bipush (-2)) 2 21 := ⟨by decide +kernel, rfl⟩
theorem d20_21 : DAt B20 21 (.ireturn) 1 22 := ⟨by decide +kernel, rfl⟩
theorem d20_22 : DAt B20 22 (.aload_n 0) 1 23 := ⟨by decide +kernel, rfl⟩
theorem d20_23 : DAt B20 23 (.iload_n 1) 1 24 := ⟨by decide +kernel, rfl⟩
theorem d20_24 : DAt B20 24 (.invokevirtual 82) 3 27 := ⟨by decide +kernel, rfl⟩
theorem d20_27 : DAt B20 27 (.ifCond .eq 6) 3 30 := ⟨by decide +kernel, rfl⟩
theorem d20_30 : DAt B20 30 (.bipush (-7)) 2 32 := ⟨by decide +kernel, rfl⟩
theorem d20_32 : DAt B20 32 (.ireturn) 1 33 := ⟨by decide +kernel, rfl⟩
theorem d20_33 : DAt B20 33 (.aload_n 0) 1 34 := ⟨by decide +kernel, rfl⟩
theorem d20_34 : DAt B20 34 (.getfield 13) 3 37 := ⟨by decide +kernel, rfl⟩
theorem d20_37 : DAt B20 37 (.iload_n 1) 1 38 := ⟨by decide +kernel, rfl⟩
theorem d20_38 : DAt B20 38 (.iconst 1) 1 39 := ⟨by decide +kernel, rfl⟩
theorem d20_39 : DAt B20 39 (.bastore) 1 40 := ⟨by decide +kernel, rfl⟩
theorem d20_40 : DAt B20 40 (.iconst 0) 1 41 := ⟨by decide +kernel, rfl⟩
theorem d20_41 : DAt B20 41 (.ireturn) 1 42 := ⟨by decide +kernel, rfl⟩
def B0 : Bdy := (x, code, maxLocals, ret, room_1)
theorem d0_0 : DAt B0 0 (.new 7) 3 3 := ⟨at_0, rfl⟩
theorem d0_3 : DAt B0 3 (.dup) 1 4 := ⟨at_3, rfl⟩
theorem d0_4 : DAt B0 4 (.iconst 3) 1 5 := ⟨at_4, rfl⟩
theorem d0_5 : DAt B0 5 (.iconst 4) 1 6 := ⟨at_5, rfl⟩
theorem d0_6 : DAt B0 6 (.invokespecial 9) 3 9 := ⟨at_6, rfl⟩
theorem d0_9 : DAt B0 9 (.astore_n 1) 1 10 := ⟨at_9, rfl⟩
theorem d0_10 : DAt B0 10 (.iconst 0) 1 11 := ⟨at_10, rfl⟩
theorem d0_11 : DAt B0 11 (.istore_n 2) 1 12 := ⟨at_11, rfl⟩
theorem d0_12 : DAt B0 12 (.iload_n 2) 1 13 := ⟨at_12, rfl⟩
theorem d0_13 : DAt B0 13 (.iconst 3) 1 14 := ⟨at_13, rfl⟩
theorem d0_14 : DAt B0 14 (.iadd) 1 15 := ⟨at_14, rfl⟩
theorem d0_15 : DAt B0 15 (.aload_n 0) 1 16 := ⟨at_15, rfl⟩
theorem d0_16 : DAt B0 16 (.arraylength) 1 17 := ⟨at_16, rfl⟩
theorem d0_17 : DAt B0 17 (.if_icmp .ge 243) 3 20 := ⟨at_17, rfl⟩
theorem d0_20 : DAt B0 20 (.aload_n 0) 1 21 := ⟨at_20, rfl⟩
theorem d0_21 : DAt B0 21 (.iload_n 2) 1 22 := ⟨at_21, rfl⟩
theorem d0_22 : DAt B0 22 (.iaload) 1 23 := ⟨at_22, rfl⟩
theorem d0_23 : DAt B0 23 (.bipush 15) 2 25 := ⟨at_23, rfl⟩
theorem d0_25 : DAt B0 25 (.iand) 1 26 := ⟨at_25, rfl⟩
theorem d0_26 : DAt B0 26 (.istore_n 3) 1 27 := ⟨at_26, rfl⟩
theorem d0_27 : DAt B0 27 (.aload_n 0) 1 28 := ⟨at_27, rfl⟩
theorem d0_28 : DAt B0 28 (.iload_n 2) 1 29 := ⟨at_28, rfl⟩
theorem d0_29 : DAt B0 29 (.iconst 1) 1 30 := ⟨at_29, rfl⟩
theorem d0_30 : DAt B0 30 (.iadd) 1 31 := ⟨at_30, rfl⟩
theorem d0_31 : DAt B0 31 (.iaload) 1 32 := ⟨at_31, rfl⟩
theorem d0_32 : DAt B0 32 (.istore 4) 2 34 := ⟨at_32, rfl⟩
theorem d0_34 : DAt B0 34 (.aload_n 0) 1 35 := ⟨at_34, rfl⟩
theorem d0_35 : DAt B0 35 (.iload_n 2) 1 36 := ⟨at_35, rfl⟩
theorem d0_36 : DAt B0 36 (.iconst 2) 1 37 := ⟨at_36, rfl⟩
theorem d0_37 : DAt B0 37 (.iadd) 1 38 := ⟨at_37, rfl⟩
theorem d0_38 : DAt B0 38 (.iaload) 1 39 := ⟨at_38, rfl⟩
theorem d0_39 : DAt B0 39 (.iconst 3) 1 40 := ⟨at_39, rfl⟩
theorem d0_40 : DAt B0 40 (.iand) 1 41 := ⟨at_40, rfl⟩
theorem d0_41 : DAt B0 41 (.istore 5) 2 43 := ⟨at_41, rfl⟩
theorem d0_43 : DAt B0 43 (.aload_n 0) 1 44 := ⟨at_43, rfl⟩
theorem d0_44 : DAt B0 44 (.iload_n 2) 1 45 := ⟨at_44, rfl⟩
theorem d0_45 : DAt B0 45 (.iconst 3) 1 46 := ⟨at_45, rfl⟩
theorem d0_46 : DAt B0 46 (.iadd) 1 47 := ⟨at_46, rfl⟩
theorem d0_47 : DAt B0 47 (.iaload) 1 48 := ⟨at_47, rfl⟩
theorem d0_48 : DAt B0 48 (.iconst 3) 1 49 := ⟨at_48, rfl⟩
theorem d0_49 : DAt B0 49 (.iand) 1 50 := ⟨at_49, rfl⟩
theorem d0_50 : DAt B0 50 (.iconst 1) 1 51 := ⟨at_50, rfl⟩
theorem d0_51 : DAt B0 51 (.iadd) 1 52 := ⟨at_51, rfl⟩
theorem d0_52 : DAt B0 52 (.istore 6) 2 54 := ⟨at_52, rfl⟩
theorem d0_54 : DAt B0 54 (.iload 4) 2 56 := ⟨at_54, rfl⟩
theorem d0_56 : DAt B0 56 (.iconst 3) 1 57 := ⟨at_56, rfl⟩
theorem d0_57 : DAt B0 57 (.iand) 1 58 := ⟨at_57, rfl⟩
theorem d0_58 : DAt B0 58 (.istore 7) 2 60 := ⟨at_58, rfl⟩
theorem d0_60 : DAt B0 60 (.iload 4) 2 62 := ⟨at_60, rfl⟩
theorem d0_62 : DAt B0 62 (.iconst 2) 1 63 := ⟨at_62, rfl⟩
theorem d0_63 : DAt B0 63 (.ishr) 1 64 := ⟨at_63, rfl⟩
theorem d0_64 : DAt B0 64 (.iconst 3) 1 65 := ⟨at_64, rfl⟩
theorem d0_65 : DAt B0 65 (.iand) 1 66 := ⟨at_65, rfl⟩
theorem d0_66 : DAt B0 66 (.istore 8) 2 68 := ⟨at_66, rfl⟩
theorem d0_68 : DAt B0 68 (.aload_n 1) 1 69 := ⟨at_68, rfl⟩
theorem d0_69 : DAt B0 69 (.invokestatic 12) 3 72 := ⟨at_69, rfl⟩
theorem d0_72 : DAt B0 72 (.lstore 9) 2 74 := ⟨at_72, rfl⟩
theorem d0_74 : DAt B0 74 (.iload_n 3) 1 75 := ⟨at_74, rfl⟩
theorem d0_75 : DAt B0 75 (.iconst 4) 1 76 := ⟨at_75, rfl⟩
theorem d0_76 : DAt B0 76 (.if_icmp .ge 14) 3 79 := ⟨at_76, rfl⟩
theorem d0_79 : DAt B0 79 (.aload_n 1) 1 80 := ⟨at_79, rfl⟩
theorem d0_80 : DAt B0 80 (.iload 7) 2 82 := ⟨at_80, rfl⟩
theorem d0_82 : DAt B0 82 (.invokevirtual 18) 3 85 := ⟨at_82, rfl⟩
theorem d0_85 : DAt B0 85 (.istore 11) 2 87 := ⟨at_85, rfl⟩
theorem d0_87 : DAt B0 87 (.goto 139) 3 90 := ⟨at_87, rfl⟩
theorem d0_90 : DAt B0 90 (.iload_n 3) 1 91 := ⟨at_90, rfl⟩
theorem d0_91 : DAt B0 91 (.bipush 8) 2 93 := ⟨at_91, rfl⟩
theorem d0_93 : DAt B0 93 (.if_icmp .lt 9) 3 96 := ⟨at_93, rfl⟩
theorem d0_96 : DAt B0 96 (.iload_n 3) 1 97 := ⟨at_96, rfl⟩
theorem d0_97 : DAt B0 97 (.bipush 15) 2 99 := ⟨at_97, rfl⟩
theorem d0_99 : DAt B0 99 (.if_icmp .ne 18) 3 102 := ⟨at_99, rfl⟩
theorem d0_102 : DAt B0 102 (.aload_n 1) 1 103 := ⟨at_102, rfl⟩
theorem d0_103 : DAt B0 103 (.iload 7) 2 105 := ⟨at_103, rfl⟩
theorem d0_105 : DAt B0 105 (.iload 5) 2 107 := ⟨at_105, rfl⟩
theorem d0_107 : DAt B0 107 (.iload 6) 2 109 := ⟨at_107, rfl⟩
theorem d0_109 : DAt B0 109 (.invokevirtual 22) 3 112 := ⟨at_109, rfl⟩
theorem d0_112 : DAt B0 112 (.istore 11) 2 114 := ⟨at_112, rfl⟩
theorem d0_114 : DAt B0 114 (.goto 112) 3 117 := ⟨at_114, rfl⟩
theorem d0_117 : DAt B0 117 (.iload_n 3) 1 118 := ⟨at_117, rfl⟩
theorem d0_118 : DAt B0 118 (.bipush 8) 2 120 := ⟨at_118, rfl⟩
theorem d0_120 : DAt B0 120 (.if_icmp .ne 18) 3 123 := ⟨at_120, rfl⟩
theorem d0_123 : DAt B0 123 (.aload_n 1) 1 124 := ⟨at_123, rfl⟩
theorem d0_124 : DAt B0 124 (.iload 5) 2 126 := ⟨at_124, rfl⟩
theorem d0_126 : DAt B0 126 (.iload 6) 2 128 := ⟨at_126, rfl⟩
theorem d0_128 : DAt B0 128 (.iload 7) 2 130 := ⟨at_128, rfl⟩
theorem d0_130 : DAt B0 130 (.invokevirtual 26) 3 133 := ⟨at_130, rfl⟩
theorem d0_133 : DAt B0 133 (.istore 11) 2 135 := ⟨at_133, rfl⟩
theorem d0_135 : DAt B0 135 (.goto 91) 3 138 := ⟨at_135, rfl⟩
theorem d0_138 : DAt B0 138 (.iload_n 3) 1 139 := ⟨at_138, rfl⟩
theorem d0_139 : DAt B0 139 (.bipush 9) 2 141 := ⟨at_139, rfl⟩
theorem d0_141 : DAt B0 141 (.if_icmp .ne 18) 3 144 := ⟨at_141, rfl⟩
theorem d0_144 : DAt B0 144 (.aload_n 1) 1 145 := ⟨at_144, rfl⟩
theorem d0_145 : DAt B0 145 (.iload 5) 2 147 := ⟨at_145, rfl⟩
theorem d0_147 : DAt B0 147 (.iload 6) 2 149 := ⟨at_147, rfl⟩
theorem d0_149 : DAt B0 149 (.iload 7) 2 151 := ⟨at_149, rfl⟩
theorem d0_151 : DAt B0 151 (.invokevirtual 29) 3 154 := ⟨at_151, rfl⟩
theorem d0_154 : DAt B0 154 (.istore 11) 2 156 := ⟨at_154, rfl⟩
theorem d0_156 : DAt B0 156 (.goto 70) 3 159 := ⟨at_156, rfl⟩
theorem d0_159 : DAt B0 159 (.iload_n 3) 1 160 := ⟨at_159, rfl⟩
theorem d0_160 : DAt B0 160 (.bipush 12) 2 162 := ⟨at_160, rfl⟩
theorem d0_162 : DAt B0 162 (.if_icmp .ge 20) 3 165 := ⟨at_162, rfl⟩
theorem d0_165 : DAt B0 165 (.aload_n 1) 1 166 := ⟨at_165, rfl⟩
theorem d0_166 : DAt B0 166 (.iload 8) 2 168 := ⟨at_166, rfl⟩
theorem d0_168 : DAt B0 168 (.iload 7) 2 170 := ⟨at_168, rfl⟩
theorem d0_170 : DAt B0 170 (.iload 5) 2 172 := ⟨at_170, rfl⟩
theorem d0_172 : DAt B0 172 (.iload 6) 2 174 := ⟨at_172, rfl⟩
theorem d0_174 : DAt B0 174 (.invokevirtual 32) 3 177 := ⟨at_174, rfl⟩
theorem d0_177 : DAt B0 177 (.istore 11) 2 179 := ⟨at_177, rfl⟩
theorem d0_179 : DAt B0 179 (.goto 47) 3 182 := ⟨at_179, rfl⟩
theorem d0_182 : DAt B0 182 (.iload_n 3) 1 183 := ⟨at_182, rfl⟩
theorem d0_183 : DAt B0 183 (.bipush 12) 2 185 := ⟨at_183, rfl⟩
theorem d0_185 : DAt B0 185 (.if_icmp .ne 16) 3 188 := ⟨at_185, rfl⟩
theorem d0_188 : DAt B0 188 (.aload_n 1) 1 189 := ⟨at_188, rfl⟩
theorem d0_189 : DAt B0 189 (.iload 8) 2 191 := ⟨at_189, rfl⟩
theorem d0_191 : DAt B0 191 (.iload 7) 2 193 := ⟨at_191, rfl⟩
theorem d0_193 : DAt B0 193 (.invokevirtual 36) 3 196 := ⟨at_193, rfl⟩
theorem d0_196 : DAt B0 196 (.istore 11) 2 198 := ⟨at_196, rfl⟩
theorem d0_198 : DAt B0 198 (.goto 28) 3 201 := ⟨at_198, rfl⟩
theorem d0_201 : DAt B0 201 (.iload_n 3) 1 202 := ⟨at_201, rfl⟩
theorem d0_202 : DAt B0 202 (.bipush 13) 2 204 := ⟨at_202, rfl⟩
theorem d0_204 : DAt B0 204 (.if_icmp .ne 14) 3 207 := ⟨at_204, rfl⟩
theorem d0_207 : DAt B0 207 (.aload_n 1) 1 208 := ⟨at_207, rfl⟩
theorem d0_208 : DAt B0 208 (.iload 7) 2 210 := ⟨at_208, rfl⟩
theorem d0_210 : DAt B0 210 (.invokevirtual 40) 3 213 := ⟨at_210, rfl⟩
theorem d0_213 : DAt B0 213 (.istore 11) 2 215 := ⟨at_213, rfl⟩
theorem d0_215 : DAt B0 215 (.goto 11) 3 218 := ⟨at_215, rfl⟩
theorem d0_218 : DAt B0 218 (.aload_n 1) 1 219 := ⟨at_218, rfl⟩
theorem d0_219 : DAt B0 219 (.iload 7) 2 221 := ⟨at_219, rfl⟩
theorem d0_221 : DAt B0 221 (.invokevirtual 43) 3 224 := ⟨at_221, rfl⟩
theorem d0_224 : DAt B0 224 (.istore 11) 2 226 := ⟨at_224, rfl⟩
theorem d0_226 : DAt B0 226 (.aload_n 1) 1 227 := ⟨at_226, rfl⟩
theorem d0_227 : DAt B0 227 (.invokestatic 12) 3 230 := ⟨at_227, rfl⟩
theorem d0_230 : DAt B0 230 (.lstore 12) 2 232 := ⟨at_230, rfl⟩
theorem d0_232 : DAt B0 232 (.iload 11) 2 234 := ⟨at_232, rfl⟩
theorem d0_234 : DAt B0 234 (.ifCond .ge 20) 3 237 := ⟨at_234, rfl⟩
theorem d0_237 : DAt B0 237 (.iload 11) 2 239 := ⟨at_237, rfl⟩
theorem d0_239 : DAt B0 239 (.bipush (-5)) 2 241 := ⟨at_239, rfl⟩
theorem d0_241 : DAt B0 241 (.if_icmp .eq 13) 3 244 := ⟨at_241, rfl⟩
theorem d0_244 : DAt B0 244 (.lload 12) 2 246 := ⟨at_244, rfl⟩
theorem d0_246 : DAt B0 246 (.lload 9) 2 248 := ⟨at_246, rfl⟩
theorem d0_248 : DAt B0 248 (.lcmp) 1 249 := ⟨at_248, rfl⟩
theorem d0_249 : DAt B0 249 (.ifCond .eq 5) 3 252 := ⟨at_249, rfl⟩
theorem d0_252 : DAt B0 252 (.iconst 0) 1 253 := ⟨at_252, rfl⟩
theorem d0_253 : DAt B0 253 (.ireturn) 1 254 := ⟨at_253, rfl⟩
theorem d0_254 : DAt B0 254 (.iinc 2 4) 3 257 := ⟨at_254, rfl⟩
theorem d0_257 : DAt B0 257 (.goto (-245)) 3 260 := ⟨at_257, rfl⟩
theorem d0_260 : DAt B0 260 (.iconst 1) 1 261 := ⟨at_260, rfl⟩
theorem d0_261 : DAt B0 261 (.ireturn) 1 262 := ⟨at_261, rfl⟩
theorem ar1 : arity B1 2 := ⟨[.int, .int], none, by decide +kernel, rfl⟩
theorem ar2 : arity B2 1 := ⟨[(.object "CausalStable")], some .long, by decide +kernel, rfl⟩
theorem ar3 : arity B3 3 := ⟨[.int, .int, .int], some .int, by decide +kernel, rfl⟩
theorem ar4 : arity B4 2 := ⟨[.int, .int], some .boolean, by decide +kernel, rfl⟩
theorem ar5 : arity B5 3 := ⟨[.int, .int, .int], some .int, by decide +kernel, rfl⟩
theorem ar6 : arity B6 3 := ⟨[.int, .int, .int], some .int, by decide +kernel, rfl⟩
theorem ar7 : arity B7 1 := ⟨[.int], some .boolean, by decide +kernel, rfl⟩
theorem ar8 : arity B8 3 := ⟨[.int, .int, .int], some .int, by decide +kernel, rfl⟩
theorem ar9 : arity B9 3 := ⟨[.int, .int, .int], some .int, by decide +kernel, rfl⟩
theorem ar10 : arity B10 2 := ⟨[.int, .int], some .int, by decide +kernel, rfl⟩
theorem ar11 : arity B11 2 := ⟨[.int, .int], some .int, by decide +kernel, rfl⟩
theorem ar12 : arity B12 1 := ⟨[.int], some .int, by decide +kernel, rfl⟩
theorem ar13 : arity B13 1 := ⟨[.int], some .boolean, by decide +kernel, rfl⟩
theorem ar14 : arity B14 1 := ⟨[.int], some .int, by decide +kernel, rfl⟩
theorem ar15 : arity B15 2 := ⟨[.int, .int], some .int, by decide +kernel, rfl⟩
theorem ar16 : arity B16 3 := ⟨[.int, .int, .int], none, by decide +kernel, rfl⟩
theorem ar17 : arity B17 3 := ⟨[.int, .int, .int], some .int, by decide +kernel, rfl⟩
theorem ar18 : arity B18 3 := ⟨[.int, .int, .int], some .int, by decide +kernel, rfl⟩
theorem ar19 : arity B19 3 := ⟨[.int, .int, .int], some .int, by decide +kernel, rfl⟩
theorem ar20 : arity B20 1 := ⟨[.int], some .int, by decide +kernel, rfl⟩
theorem ar21 : arity B21 1 := ⟨[.int], some .boolean, by decide +kernel, rfl⟩
theorem ar22 : arity B22 3 := ⟨[.int, .int, .int], some .int, by decide +kernel, rfl⟩
theorem ar23 : arity B23 1 := ⟨[.int], some .int, by decide +kernel, rfl⟩
theorem ar24 : arity B24 3 := ⟨[.int, .int, .int], some .int, by decide +kernel, rfl⟩
theorem ar25 : arity B25 4 := ⟨[.int, .int, .int, .int], some .int, by decide +kernel, rfl⟩
theorem ar26 : arity B26 2 := ⟨[.int, .int], some .int, by decide +kernel, rfl⟩
theorem ar27 : arity B27 3 := ⟨[.int, .int, .int], some .boolean, by decide +kernel, rfl⟩
theorem ar28 : arity B28 1 := ⟨[.int], some .int, by decide +kernel, rfl⟩
theorem ar29 : arity B29 3 := ⟨[.int, .int, .int], some .boolean, by decide +kernel, rfl⟩
theorem cw1 : code_w B1 := ⟨mem1 5 rfl, mem1 2 rfl, by decide⟩
theorem cw2 : code_w B2 := ⟨mem1 36 rfl, mem1 35 rfl, by decide⟩
theorem cw3 : code_w B3 := ⟨mem1 43 rfl, mem1 2 rfl, by decide⟩
theorem cw4 : code_w B4 := ⟨mem1 47 rfl, mem1 2 rfl, by decide⟩
theorem cw5 : code_w B5 := ⟨mem1 52 rfl, mem1 2 rfl, by decide⟩
theorem cw6 : code_w B6 := ⟨mem1 57 rfl, mem1 2 rfl, by decide⟩
theorem cw7 : code_w B7 := ⟨mem1 61 rfl, mem1 2 rfl, by decide⟩
theorem cw8 : code_w B8 := ⟨mem1 66 rfl, mem1 2 rfl, by decide⟩
theorem cw9 : code_w B9 := ⟨mem1 70 rfl, mem1 2 rfl, by decide⟩
theorem cw10 : code_w B10 := ⟨mem1 75 rfl, mem1 2 rfl, by decide⟩
theorem cw11 : code_w B11 := ⟨mem1 80 rfl, mem1 2 rfl, by decide⟩
theorem cw12 : code_w B12 := ⟨mem1 85 rfl, mem1 2 rfl, by decide⟩
theorem cw13 : code_w B13 := ⟨mem1 90 rfl, mem1 2 rfl, by decide⟩
theorem cw14 : code_w B14 := ⟨mem1 96 rfl, mem1 2 rfl, by decide⟩
theorem cw15 : code_w B15 := ⟨mem1 100 rfl, mem1 2 rfl, by decide⟩
theorem cw16 : code_w B16 := ⟨mem1 104 rfl, mem1 2 rfl, by decide⟩
theorem cw17 : code_w B17 := ⟨mem1 108 rfl, mem1 2 rfl, by decide⟩
theorem cw18 : code_w B18 := ⟨mem1 112 rfl, mem1 2 rfl, by decide⟩
theorem cw19 : code_w B19 := ⟨mem1 117 rfl, mem1 2 rfl, by decide⟩
theorem cw20 : code_w B20 := ⟨mem1 122 rfl, mem1 2 rfl, by decide⟩
theorem cw21 : code_w B21 := ⟨mem1 126 rfl, mem1 2 rfl, by decide⟩
theorem cw22 : code_w B22 := ⟨mem1 132 rfl, mem1 2 rfl, by decide⟩
theorem cw23 : code_w B23 := ⟨mem1 137 rfl, mem1 2 rfl, by decide⟩
theorem cw24 : code_w B24 := ⟨mem1 142 rfl, mem1 2 rfl, by decide⟩
theorem cw25 : code_w B25 := ⟨mem1 147 rfl, mem1 2 rfl, by decide⟩
theorem cw26 : code_w B26 := ⟨mem1 152 rfl, mem1 2 rfl, by decide⟩
theorem cw27 : code_w B27 := ⟨mem1 156 rfl, mem1 2 rfl, by decide⟩
theorem cw28 : code_w B28 := ⟨mem1 160 rfl, mem1 2 rfl, by decide⟩
theorem cw29 : code_w B29 := ⟨mem1 164 rfl, mem1 2 rfl, by decide⟩
theorem rk0_2_0 : room_ok B0 B2 0 := by decide
theorem rk0_14_0 : room_ok B0 B14 0 := by decide
theorem rk0_19_0 : room_ok B0 B19 0 := by decide
theorem rk0_20_0 : room_ok B0 B20 0 := by decide
theorem rk0_22_0 : room_ok B0 B22 0 := by decide
theorem rk0_23_0 : room_ok B0 B23 0 := by decide
theorem rk0_24_0 : room_ok B0 B24 0 := by decide
theorem rk0_25_0 : room_ok B0 B25 0 := by decide
theorem rk0_26_0 : room_ok B0 B26 0 := by decide
theorem rk2_3_2 : room_ok B2 B3 2 := by decide
theorem rk2_5_2 : room_ok B2 B5 2 := by decide
theorem rk2_6_2 : room_ok B2 B6 2 := by decide
theorem rk2_8_2 : room_ok B2 B8 2 := by decide
theorem rk2_10_2 : room_ok B2 B10 2 := by decide
theorem rk2_11_2 : room_ok B2 B11 2 := by decide
theorem rk2_12_2 : room_ok B2 B12 2 := by decide
theorem rk2_13_0 : room_ok B2 B13 0 := by decide
theorem rk3_4_0 : room_ok B3 B4 0 := by decide
theorem rk3_7_0 : room_ok B3 B7 0 := by decide
theorem rk3_15_0 : room_ok B3 B15 0 := by decide
theorem rk5_4_0 : room_ok B5 B4 0 := by decide
theorem rk5_7_0 : room_ok B5 B7 0 := by decide
theorem rk5_18_0 : room_ok B5 B18 0 := by decide
theorem rk6_4_0 : room_ok B6 B4 0 := by decide
theorem rk6_7_0 : room_ok B6 B7 0 := by decide
theorem rk6_17_0 : room_ok B6 B17 0 := by decide
theorem rk8_7_0 : room_ok B8 B7 0 := by decide
theorem rk8_9_0 : room_ok B8 B9 0 := by decide
theorem rk10_7_0 : room_ok B10 B7 0 := by decide
theorem rk11_7_0 : room_ok B11 B7 0 := by decide
theorem rk12_7_0 : room_ok B12 B7 0 := by decide
theorem rk13_7_0 : room_ok B13 B7 0 := by decide
theorem rk14_7_0 : room_ok B14 B7 0 := by decide
theorem rk14_15_0 : room_ok B14 B15 0 := by decide
theorem rk14_16_0 : room_ok B14 B16 0 := by decide
theorem rk16_9_0 : room_ok B16 B9 0 := by decide
theorem rk16_17_0 : room_ok B16 B17 0 := by decide
theorem rk19_4_0 : room_ok B19 B4 0 := by decide
theorem rk19_7_0 : room_ok B19 B7 0 := by decide
theorem rk19_18_0 : room_ok B19 B18 0 := by decide
theorem rk20_7_0 : room_ok B20 B7 0 := by decide
theorem rk20_21_0 : room_ok B20 B21 0 := by decide
theorem rk22_4_0 : room_ok B22 B4 0 := by decide
theorem rk22_7_0 : room_ok B22 B7 0 := by decide
theorem rk22_17_0 : room_ok B22 B17 0 := by decide
theorem rk22_18_0 : room_ok B22 B18 0 := by decide
theorem rk22_28_0 : room_ok B22 B28 0 := by decide
theorem rk23_7_0 : room_ok B23 B7 0 := by decide
theorem rk23_17_0 : room_ok B23 B17 0 := by decide
theorem rk23_27_0 : room_ok B23 B27 0 := by decide
theorem rk24_4_0 : room_ok B24 B4 0 := by decide
theorem rk24_7_0 : room_ok B24 B7 0 := by decide
theorem rk24_18_0 : room_ok B24 B18 0 := by decide
theorem rk25_4_0 : room_ok B25 B4 0 := by decide
theorem rk25_7_0 : room_ok B25 B7 0 := by decide
theorem rk25_17_0 : room_ok B25 B17 0 := by decide
theorem rk25_18_0 : room_ok B25 B18 0 := by decide
theorem rk26_7_0 : room_ok B26 B7 0 := by decide
theorem rk27_9_0 : room_ok B27 B9 0 := by decide
theorem rk28_16_0 : room_ok B28 B16 0 := by decide
theorem rk28_29_0 : room_ok B28 B29 0 := by decide
theorem rk29_4_0 : room_ok B29 B4 0 := by decide
theorem rk29_15_0 : room_ok B29 B15 0 := by decide
theorem rk29_17_0 : room_ok B29 B17 0 := by decide
def X_init_b116 (ob : Rec) (i4 : Int32) : Option (Rec) :=
  if (8 : Int32) < i4 then
    some (sI ob 1 (8 : Int32))
  else
    some (sI ob 1 i4)
set_option maxRecDepth 65536 in
set_option maxHeartbeats 4000000 in
theorem X_init_b116_p {C : Ctx} {a : Nat} {H : List (Nat × Nat × Rec)} {res : Rec} (ob : Rec) (i4 : Int32) (hf : X_init_b116 ob i4 = some res) : Runs C B1 9 2648 116 [vr a, vn, vn, vn, vi i4] [] (a + 1 + 9, (a, 9, ob) :: H) (Ans none (a + 1 + 9, (a, 9, res) :: H)) := by
  delta X_init_b116 at hf
  refine Runs.iload d1_116 rfl <| Runs.bipush d1_118 cb_8 <| ?_
  refine ite_el hf (fun hc3 hf => ?_) (fun hc3 hf => ?_)
  · refine Runs.icN d1_120 (tlt hc3).2.2.2 <| ?_
    obtain rfl := Option.some.inj hf
    exact Runs.bipush d1_123 cb_8 <| Runs.istore (P' := [vr a, vn, vn, vn, vi (8 : Int32)]) d1_125 (by decide) rfl <| Runs.aloadN d1_127 rfl <| Runs.iload d1_128 rfl <| Runs.putI d1_130 w31 fS_1 (Or.inl w32) <| Runs.retV d1_133 rfl ⟨by decide, by decide⟩ ⟨rfl, rfl⟩
  · refine Runs.icY (pc' := 127) d1_120 (flt hc3).2.2.2 (by decide) <| ?_
    obtain rfl := Option.some.inj hf
    exact Runs.aloadN d1_127 rfl <| Runs.iload d1_128 rfl <| Runs.putI d1_130 w31 fS_1 (Or.inl w32) <| Runs.retV d1_133 rfl ⟨by decide, by decide⟩ ⟨rfl, rfl⟩
def X_init_b99 (ob : Rec) (i2 : Int32) (i3 : Int32) : Option (Rec) :=
  if i2 < (1 : Int32) then
    X_init_b116 (sI ob 0 i3) (1 : Int32)
  else
    X_init_b116 (sI ob 0 i3) i2
set_option maxRecDepth 65536 in
set_option maxHeartbeats 4000000 in
theorem X_init_b99_p {C : Ctx} {a : Nat} {H : List (Nat × Nat × Rec)} {res : Rec} (ob : Rec) (i2 : Int32) (i3 : Int32) (hf : X_init_b99 ob i2 i3 = some res) : Runs C B1 9 2648 99 [vr a, vn, vi i2, vi i3, vn] [] (a + 1 + 9, (a, 9, ob) :: H) (Ans none (a + 1 + 9, (a, 9, res) :: H)) := by
  delta X_init_b99 at hf
  refine Runs.aloadN d1_99 rfl <| Runs.iloadN d1_100 rfl <| Runs.putI d1_101 w29 fS_0 (Or.inl w30) <| Runs.iloadN d1_104 rfl <| Runs.istore (P' := [vr a, vn, vi i2, vi i3, vi i2]) d1_105 (by decide) rfl <| Runs.iload d1_107 rfl <| Runs.iconst d1_109 ci_1 <| ?_
  refine ite_el hf (fun hc2 hf => ?_) (fun hc2 hf => ?_)
  · refine Runs.icN d1_110 (tlt hc2).2.1 <| ?_
    exact Runs.iconst d1_113 ci_1 <| Runs.istore (P' := [vr a, vn, vi i2, vi i3, vi (1 : Int32)]) d1_114 (by decide) rfl <| Runs.forget [true, false, false, false, true] rfl <| X_init_b116_p (sI ob 0 i3) (1 : Int32) hf
  · exact Runs.icY (pc' := 116) d1_110 (flt hc2).2.1 (by decide) <| Runs.forget [true, false, false, false, true] rfl <| X_init_b116_p (sI ob 0 i3) i2 hf
def X_init_b90 (ob : Rec) (i2 : Int32) (i3 : Int32) : Option (Rec) :=
  if (8 : Int32) < i3 then
    X_init_b99 ob i2 (8 : Int32)
  else
    X_init_b99 ob i2 i3
set_option maxRecDepth 65536 in
set_option maxHeartbeats 4000000 in
theorem X_init_b90_p {C : Ctx} {a : Nat} {H : List (Nat × Nat × Rec)} {res : Rec} (ob : Rec) (i2 : Int32) (i3 : Int32) (hf : X_init_b90 ob i2 i3 = some res) : Runs C B1 9 2648 90 [vr a, vn, vi i2, vi i3, vn] [] (a + 1 + 9, (a, 9, ob) :: H) (Ans none (a + 1 + 9, (a, 9, res) :: H)) := by
  delta X_init_b90 at hf
  refine Runs.iloadN d1_90 rfl <| Runs.bipush d1_91 cb_8 <| ?_
  refine ite_el hf (fun hc1 hf => ?_) (fun hc1 hf => ?_)
  · refine Runs.icN d1_93 (tlt hc1).2.2.2 <| ?_
    exact Runs.bipush d1_96 cb_8 <| Runs.istoreN (P' := [vr a, vn, vi i2, vi (8 : Int32), vn]) d1_98 (by decide) rfl <| X_init_b99_p ob i2 (8 : Int32) hf
  · exact Runs.icY (pc' := 99) d1_93 (flt hc1).2.2.2 (by decide) <| X_init_b99_p ob i2 i3 hf
def X_init (i1 : Int32) (i2 : Int32) : Option (Rec) :=
  if i1 < (2 : Int32) then
    X_init_b90 zrec i2 (2 : Int32)
  else
    X_init_b90 zrec i2 i1
set_option maxRecDepth 65536 in
set_option maxHeartbeats 4000000 in
theorem X_init_p {C : Ctx} {a : Nat} {H : List (Nat × Nat × Rec)} {res : Rec} (i1 : Int32) (i2 : Int32) (hf : X_init i1 i2 = some res) : Runs C B1 0 0 0 [vr a, vi i1, vi i2, vn, vn] [] (a + 1, (a, 0, zrec) :: H) (Ans none (a + 1 + 9, (a, 9, res) :: H)) := by
  delta X_init at hf
  refine Runs.aloadN d1_0 rfl <| Runs.initO (W := 0) d1_1 w6 w7 w8 rfl (by decide) <| Runs.aloadN d1_4 rfl <| Runs.bipush d1_5 cb_8 <| Runs.newArr (j' := 1) (top' := a + 1 + 1) (k' := 1) (n' := 8) d1_7 d1_9 fA_0 w10 rfl w9 (Or.inl w11) rfl (by decide) ⟨by decide, by decide⟩ ⟨fun _ => rfl, fun _ => rfl⟩ rfl rfl rfl (by decide) <| Runs.aloadN d1_12 rfl <| Runs.bipush d1_13 cb_8 <| Runs.newArr (j' := 2) (top' := a + 1 + 2) (k' := 2) (n' := 16) d1_15 d1_17 fA_1 w13 rfl w12 (Or.inl w14) rfl (by decide) ⟨by decide, by decide⟩ ⟨fun _ => rfl, fun _ => rfl⟩ rfl rfl rfl (by decide) <| Runs.aloadN d1_20 rfl <| Runs.bipush d1_21 cb_64 <| Runs.newArr (j' := 3) (top' := a + 1 + 3) (k' := 3) (n' := 80) d1_23 d1_25 fA_2 w15 rfl w9 (Or.inl w16) rfl (by decide) ⟨by decide, by decide⟩ ⟨fun _ => rfl, fun _ => rfl⟩ rfl rfl rfl (by decide) <| Runs.aloadN d1_28 rfl <| ?_
  refine Runs.sipush d1_29 cs_512 <| Runs.newArr (j' := 4) (top' := a + 1 + 4) (k' := 4) (n' := 592) d1_32 d1_34 fA_3 w17 rfl w9 (Or.inl w18) rfl (by decide) ⟨by decide, by decide⟩ ⟨fun _ => rfl, fun _ => rfl⟩ rfl rfl rfl (by decide) <| Runs.aloadN d1_37 rfl <| Runs.sipush d1_38 cs_512 <| Runs.newArr (j' := 5) (top' := a + 1 + 5) (k' := 5) (n' := 1104) d1_41 d1_43 fA_4 w19 rfl w9 (Or.inl w20) rfl (by decide) ⟨by decide, by decide⟩ ⟨fun _ => rfl, fun _ => rfl⟩ rfl rfl rfl (by decide) <| Runs.aloadN d1_46 rfl <| Runs.sipush d1_47 cs_512 <| Runs.newArr (j' := 6) (top' := a + 1 + 6) (k' := 6) (n' := 1616) d1_50 d1_52 fA_5 w21 rfl w9 (Or.inl w22) rfl (by decide) ⟨by decide, by decide⟩ ⟨fun _ => rfl, fun _ => rfl⟩ rfl rfl rfl (by decide) <| Runs.aloadN d1_55 rfl <| Runs.sipush d1_56 cs_512 <| Runs.newArr (j' := 7) (top' := a + 1 + 7) (k' := 7) (n' := 2128) d1_59 d1_61 fA_6 w23 rfl w9 (Or.inl w24) rfl (by decide) ⟨by decide, by decide⟩ ⟨fun _ => rfl, fun _ => rfl⟩ rfl rfl rfl (by decide) <| Runs.aloadN d1_64 rfl <| ?_
  refine Runs.sipush d1_65 cs_512 <| Runs.newArr (j' := 8) (top' := a + 1 + 8) (k' := 8) (n' := 2640) d1_68 d1_70 fA_7 w25 rfl w9 (Or.inl w26) rfl (by decide) ⟨by decide, by decide⟩ ⟨fun _ => rfl, fun _ => rfl⟩ rfl rfl rfl (by decide) <| Runs.aloadN d1_73 rfl <| Runs.bipush d1_74 cb_8 <| Runs.newArr (j' := 9) (top' := a + 1 + 9) (k' := 9) (n' := 2648) d1_76 d1_78 fA_8 w27 rfl w9 (Or.inl w28) rfl (by decide) ⟨by decide, by decide⟩ ⟨fun _ => rfl, fun _ => rfl⟩ rfl rfl rfl (by decide) <| Runs.iloadN d1_81 rfl <| Runs.istoreN (P' := [vr a, vi i1, vi i2, vi i1, vn]) d1_82 (by decide) rfl <| Runs.iloadN d1_83 rfl <| Runs.iconst d1_84 ci_2 <| ?_
  refine ite_el hf (fun hc4 hf => ?_) (fun hc4 hf => ?_)
  · refine Runs.icN d1_85 (tlt hc4).2.1 <| ?_
    exact Runs.iconst d1_88 ci_2 <| Runs.istoreN (P' := [vr a, vi i1, vi i2, vi (2 : Int32), vn]) d1_89 (by decide) rfl <| Runs.forget [true, false, true, true, false] rfl <| X_init_b90_p zrec i2 (2 : Int32) hf
  · exact Runs.icY (pc' := 90) d1_85 (flt hc4).2.1 (by decide) <| Runs.forget [true, false, true, true, false] rfl <| X_init_b90_p zrec i2 i1 hf
theorem X_init_pay {C : Ctx} {a : Nat} {H : List (Nat × Nat × Rec)} {res : Rec} {i1 : Int32} {i2 : Int32} (hf : X_init i1 i2 = some res) : Pays C B1 [.ref a, .int i1, .int i2] (a + 1, (a, 0, zrec) :: H) (Ans none (a + 1 + 9, (a, 9, res) :: H)) :=
  Pays.of pnK (Nat.le_of_ble_eq_true rfl) (P := [vr a, vi i1, vi i2, vn, vn]) 2 rfl (X_init_p i1 i2 hf)
def X_exists (ob : Rec) (i1 : Int32) (i2 : Int32) : Option (Int32) :=
  if i1 < (0 : Int32) then
    some (0 : Int32)
  else
    if i1 < (gI ob 0) then
      if i2 < (1 : Int32) then
        some (0 : Int32)
      else
        chk (8 : Int32) i1 <|
        if (gA ob 0 i1) < i2 then
          some (0 : Int32)
        else
          some (1 : Int32)
    else
      some (0 : Int32)
set_option maxRecDepth 65536 in
set_option maxHeartbeats 4000000 in
theorem X_exists_p {C : Ctx} {top : Nat} {a : Nat} {H : List (Nat × Nat × Rec)} {ob : Rec} {res : Int32} (i1 : Int32) (i2 : Int32) (hf : X_exists ob i1 i2 = some res) : Runs C B4 0 0 0 [vr a, vi i1, vi i2] [] (top, (a, 9, ob) :: H) (Ans (some (.int res)) (top, (a, 9, ob) :: H)) := by
  delta X_exists at hf
  refine Runs.iloadN d4_0 rfl <| ?_
  refine ite_el hf (fun hc1 hf => ?_) (fun hc1 hf => ?_)
  · refine Runs.ifY (pc' := 31) d4_1 (tlt hc1).1 (by decide) <| ?_
    obtain rfl := Option.some.inj hf
    exact Runs.iconst d4_31 ci_0 <| Runs.retZ (y := (0 : Int32)) d4_32 rfl ⟨by decide, by decide⟩ rfl ⟨rfl, rfl⟩
  · refine Runs.ifN d4_1 (flt hc1).1 <| ?_
    refine Runs.iloadN d4_4 rfl <| Runs.aloadN d4_5 rfl <| Runs.getI d4_6 w29 fS_0 <| ?_
    refine ite_el hf (fun hc2 hf => ?_) (fun hc2 hf => ?_)
    · refine Runs.icN d4_9 (tlt hc2).2.1 <| ?_
      refine Runs.iloadN d4_12 rfl <| Runs.iconst d4_13 ci_1 <| ?_
      refine ite_el hf (fun hc3 hf => ?_) (fun hc3 hf => ?_)
      · refine Runs.icY (pc' := 31) d4_14 (tlt hc3).1 (by decide) <| ?_
        obtain rfl := Option.some.inj hf
        exact Runs.iconst d4_31 ci_0 <| Runs.retZ (y := (0 : Int32)) d4_32 rfl ⟨by decide, by decide⟩ rfl ⟨rfl, rfl⟩
      · refine Runs.icN d4_14 (flt hc3).1 <| ?_
        refine Runs.iloadN d4_17 rfl <| Runs.aloadN d4_18 rfl <| Runs.getA d4_19 fA_0 w10 (by decide) <| Runs.iloadN d4_22 rfl <| ?_
        refine chk_el hf fun hi4 hf => ?_
        refine Runs.ialoadA d4_23 fA_0 (by decide) hi4 <| ?_
        refine ite_el hf (fun hc5 hf => ?_) (fun hc5 hf => ?_)
        · refine Runs.icY (pc' := 31) d4_24 (tlt hc5).2.2.1 (by decide) <| ?_
          obtain rfl := Option.some.inj hf
          exact Runs.iconst d4_31 ci_0 <| Runs.retZ (y := (0 : Int32)) d4_32 rfl ⟨by decide, by decide⟩ rfl ⟨rfl, rfl⟩
        · refine Runs.icN d4_24 (flt hc5).2.2.1 <| ?_
          obtain rfl := Option.some.inj hf
          exact Runs.iconst d4_27 ci_1 <| Runs.goto (pc' := 32) d4_28 (by decide) <| Runs.retZ (y := (1 : Int32)) d4_32 rfl ⟨by decide, by decide⟩ rfl ⟨rfl, rfl⟩
    · refine Runs.icY (pc' := 31) d4_9 (flt hc2).2.1 (by decide) <| ?_
      obtain rfl := Option.some.inj hf
      exact Runs.iconst d4_31 ci_0 <| Runs.retZ (y := (0 : Int32)) d4_32 rfl ⟨by decide, by decide⟩ rfl ⟨rfl, rfl⟩
theorem X_exists_pay {C : Ctx} {top : Nat} {a : Nat} {H : List (Nat × Nat × Rec)} {ob : Rec} {res : Int32} {i1 : Int32} {i2 : Int32} (hf : X_exists ob i1 i2 = some res) : Pays C B4 [.ref a, .int i1, .int i2] (top, (a, 9, ob) :: H) (Ans (some (.int res)) (top, (a, 9, ob) :: H)) :=
  Pays.of pnK (Nat.le_of_ble_eq_true rfl) (P := [vr a, vi i1, vi i2]) 0 rfl (X_exists_p i1 i2 hf)
def X_validProc (ob : Rec) (i1 : Int32) : Option (Int32) :=
  if i1 < (0 : Int32) then
    some (0 : Int32)
  else
    if i1 < (gI ob 0) then
      some (1 : Int32)
    else
      some (0 : Int32)
set_option maxRecDepth 65536 in
set_option maxHeartbeats 4000000 in
theorem X_validProc_p {C : Ctx} {top : Nat} {a : Nat} {H : List (Nat × Nat × Rec)} {ob : Rec} {res : Int32} (i1 : Int32) (hf : X_validProc ob i1 = some res) : Runs C B7 0 0 0 [vr a, vi i1] [] (top, (a, 9, ob) :: H) (Ans (some (.int res)) (top, (a, 9, ob) :: H)) := by
  delta X_validProc at hf
  refine Runs.iloadN d7_0 rfl <| ?_
  refine ite_el hf (fun hc1 hf => ?_) (fun hc1 hf => ?_)
  · refine Runs.ifY (pc' := 16) d7_1 (tlt hc1).1 (by decide) <| ?_
    obtain rfl := Option.some.inj hf
    exact Runs.iconst d7_16 ci_0 <| Runs.retZ (y := (0 : Int32)) d7_17 rfl ⟨by decide, by decide⟩ rfl ⟨rfl, rfl⟩
  · refine Runs.ifN d7_1 (flt hc1).1 <| ?_
    refine Runs.iloadN d7_4 rfl <| Runs.aloadN d7_5 rfl <| Runs.getI d7_6 w29 fS_0 <| ?_
    refine ite_el hf (fun hc2 hf => ?_) (fun hc2 hf => ?_)
    · refine Runs.icN d7_9 (tlt hc2).2.1 <| ?_
      obtain rfl := Option.some.inj hf
      exact Runs.iconst d7_12 ci_1 <| Runs.goto (pc' := 17) d7_13 (by decide) <| Runs.retZ (y := (1 : Int32)) d7_17 rfl ⟨by decide, by decide⟩ rfl ⟨rfl, rfl⟩
    · refine Runs.icY (pc' := 16) d7_9 (flt hc2).2.1 (by decide) <| ?_
      obtain rfl := Option.some.inj hf
      exact Runs.iconst d7_16 ci_0 <| Runs.retZ (y := (0 : Int32)) d7_17 rfl ⟨by decide, by decide⟩ rfl ⟨rfl, rfl⟩
theorem X_validProc_pay {C : Ctx} {top : Nat} {a : Nat} {H : List (Nat × Nat × Rec)} {ob : Rec} {res : Int32} {i1 : Int32} (hf : X_validProc ob i1 = some res) : Pays C B7 [.ref a, .int i1] (top, (a, 9, ob) :: H) (Ans (some (.int res)) (top, (a, 9, ob) :: H)) :=
  Pays.of pnK (Nat.le_of_ble_eq_true rfl) (P := [vr a, vi i1]) 0 rfl (X_validProc_p i1 hf)
def X_msgIndex (ob : Rec) (i1 : Int32) (i2 : Int32) : Option (Int32) :=
  some (((i1 * (8 : Int32)) + i2) - (1 : Int32))
set_option maxRecDepth 65536 in
set_option maxHeartbeats 4000000 in
theorem X_msgIndex_p {C : Ctx} {top : Nat} {a : Nat} {H : List (Nat × Nat × Rec)} {ob : Rec} {res : Int32} (i1 : Int32) (i2 : Int32) (hf : X_msgIndex ob i1 i2 = some res) : Runs C B15 0 0 0 [vr a, vi i1, vi i2] [] (top, (a, 9, ob) :: H) (Ans (some (.int res)) (top, (a, 9, ob) :: H)) := by
  delta X_msgIndex at hf
  obtain rfl := Option.some.inj hf
  exact Runs.iloadN d15_0 rfl <| Runs.bipush d15_1 cb_8 <| Runs.imul d15_3 <| Runs.iloadN d15_4 rfl <| Runs.iadd d15_5 <| Runs.iconst d15_6 ci_1 <| Runs.isub d15_7 <| Runs.retI d15_8 rfl ⟨by decide, by decide⟩ ⟨rfl, rfl⟩
theorem X_msgIndex_pay {C : Ctx} {top : Nat} {a : Nat} {H : List (Nat × Nat × Rec)} {ob : Rec} {res : Int32} {i1 : Int32} {i2 : Int32} (hf : X_msgIndex ob i1 i2 = some res) : Pays C B15 [.ref a, .int i1, .int i2] (top, (a, 9, ob) :: H) (Ans (some (.int res)) (top, (a, 9, ob) :: H)) :=
  Pays.of pnK (Nat.le_of_ble_eq_true rfl) (P := [vr a, vi i1, vi i2]) 0 rfl (X_msgIndex_p i1 i2 hf)
def X_stamp (ob : Rec) (i1 : Int32) (i2 : Int32) (i3 : Int32) : Option (Int32) :=
  (X_exists ob i1 i2).bind fun r1 =>
  if r1 = (0 : Int32) then
    some (-1 : Int32)
  else
    (X_validProc ob i3).bind fun r4 =>
    if r4 = (0 : Int32) then
      some (-1 : Int32)
    else
      (X_msgIndex ob i1 i2).bind fun r7 =>
      chk (512 : Int32) ((r7 * (8 : Int32)) + i3) <|
      some (gA ob 4 ((r7 * (8 : Int32)) + i3))
set_option maxRecDepth 65536 in
set_option maxHeartbeats 4000000 in
theorem X_stamp_p {C : Ctx} {top : Nat} {a : Nat} {H : List (Nat × Nat × Rec)} {ob : Rec} {res : Int32} (i1 : Int32) (i2 : Int32) (i3 : Int32) (hf : X_stamp ob i1 i2 i3 = some res) : Runs C B3 0 0 0 [vr a, vi i1, vi i2, vi i3, vn] [] (top, (a, 9, ob) :: H) (Ans (some (.int res)) (top, (a, 9, ob) :: H)) := by
  delta X_stamp at hf
  refine Runs.aloadN d3_0 rfl <| Runs.iloadN d3_1 rfl <| Runs.iloadN d3_2 rfl <| ?_
  refine bind_el hf fun r1 hg2 hf => ?_
  refine Runs.callP (N := B4) (W := 0) (as := [.int i1, .int i2]) (S' := []) d3_3 w44 w45 w46 rfl cw4 ar4 rk3_4_0 (by decide) rfl rfl (X_exists_pay hg2) <| ans1 <| ?_
  refine ite_el hf (fun hc3 hf => ?_) (fun hc3 hf => ?_)
  · refine Runs.ifY (pc' := 17) d3_6 (teq hc3).1 (by decide) <| ?_
    obtain rfl := Option.some.inj hf
    exact Runs.iconst d3_17 ci_m1 <| Runs.retI d3_18 rfl ⟨by decide, by decide⟩ ⟨rfl, rfl⟩
  · refine Runs.ifN d3_6 (feq hc3).1 <| ?_
    refine Runs.aloadN d3_9 rfl <| Runs.iloadN d3_10 rfl <| ?_
    refine bind_el hf fun r4 hg5 hf => ?_
    refine Runs.callP (N := B7) (W := 0) (as := [.int i3]) (S' := []) d3_11 w58 w59 w60 rfl cw7 ar7 rk3_7_0 (by decide) rfl rfl (X_validProc_pay hg5) <| ans1 <| ?_
    refine ite_el hf (fun hc6 hf => ?_) (fun hc6 hf => ?_)
    · refine Runs.ifN d3_14 (teq hc6).2 <| ?_
      obtain rfl := Option.some.inj hf
      exact Runs.iconst d3_17 ci_m1 <| Runs.retI d3_18 rfl ⟨by decide, by decide⟩ ⟨rfl, rfl⟩
    · refine Runs.ifY (pc' := 19) d3_14 (feq hc6).2 (by decide) <| ?_
      refine Runs.aloadN d3_19 rfl <| Runs.iloadN d3_20 rfl <| Runs.iloadN d3_21 rfl <| ?_
      refine bind_el hf fun r7 hg8 hf => ?_
      refine Runs.callP (N := B15) (W := 0) (as := [.int i1, .int i2]) (S' := []) d3_22 w97 w98 w99 rfl cw15 ar15 rk3_15_0 (by decide) rfl rfl (X_msgIndex_pay hg8) <| ans1 <| Runs.istore (P' := [vr a, vi i1, vi i2, vi i3, vi r7]) d3_25 (by decide) rfl <| Runs.aloadN d3_27 rfl <| Runs.getA d3_28 fA_4 w19 (by decide) <| Runs.iload d3_31 rfl <| Runs.bipush d3_33 cb_8 <| Runs.imul d3_35 <| Runs.iloadN d3_36 rfl <| Runs.iadd d3_37 <| ?_
      refine chk_el hf fun hi9 hf => ?_
      obtain rfl := Option.some.inj hf
      exact Runs.ialoadA d3_38 fA_4 (by decide) hi9 <| Runs.retI d3_39 rfl ⟨by decide, by decide⟩ ⟨rfl, rfl⟩
theorem X_stamp_pay {C : Ctx} {top : Nat} {a : Nat} {H : List (Nat × Nat × Rec)} {ob : Rec} {res : Int32} {i1 : Int32} {i2 : Int32} {i3 : Int32} (hf : X_stamp ob i1 i2 i3 = some res) : Pays C B3 [.ref a, .int i1, .int i2, .int i3] (top, (a, 9, ob) :: H) (Ans (some (.int res)) (top, (a, 9, ob) :: H)) :=
  Pays.of pnK (Nat.le_of_ble_eq_true rfl) (P := [vr a, vi i1, vi i2, vi i3, vn]) 1 rfl (X_stamp_p i1 i2 i3 hf)
def X_copyIndex (ob : Rec) (i1 : Int32) (i2 : Int32) (i3 : Int32) : Option (Int32) :=
  some (((((i1 * (8 : Int32)) + i2) - (1 : Int32)) * (8 : Int32)) + i3)
set_option maxRecDepth 65536 in
set_option maxHeartbeats 4000000 in
theorem X_copyIndex_p {C : Ctx} {top : Nat} {a : Nat} {H : List (Nat × Nat × Rec)} {ob : Rec} {res : Int32} (i1 : Int32) (i2 : Int32) (i3 : Int32) (hf : X_copyIndex ob i1 i2 i3 = some res) : Runs C B18 0 0 0 [vr a, vi i1, vi i2, vi i3] [] (top, (a, 9, ob) :: H) (Ans (some (.int res)) (top, (a, 9, ob) :: H)) := by
  delta X_copyIndex at hf
  obtain rfl := Option.some.inj hf
  exact Runs.iloadN d18_0 rfl <| Runs.bipush d18_1 cb_8 <| Runs.imul d18_3 <| Runs.iloadN d18_4 rfl <| Runs.iadd d18_5 <| Runs.iconst d18_6 ci_1 <| Runs.isub d18_7 <| Runs.bipush d18_8 cb_8 <| Runs.imul d18_10 <| Runs.iloadN d18_11 rfl <| Runs.iadd d18_12 <| Runs.retI d18_13 rfl ⟨by decide, by decide⟩ ⟨rfl, rfl⟩
theorem X_copyIndex_pay {C : Ctx} {top : Nat} {a : Nat} {H : List (Nat × Nat × Rec)} {ob : Rec} {res : Int32} {i1 : Int32} {i2 : Int32} {i3 : Int32} (hf : X_copyIndex ob i1 i2 i3 = some res) : Pays C B18 [.ref a, .int i1, .int i2, .int i3] (top, (a, 9, ob) :: H) (Ans (some (.int res)) (top, (a, 9, ob) :: H)) :=
  Pays.of pnK (Nat.le_of_ble_eq_true rfl) (P := [vr a, vi i1, vi i2, vi i3]) 0 rfl (X_copyIndex_p i1 i2 i3 hf)
def X_copies (ob : Rec) (i1 : Int32) (i2 : Int32) (i3 : Int32) : Option (Int32) :=
  (X_exists ob i1 i2).bind fun r1 =>
  if r1 = (0 : Int32) then
    some (-1 : Int32)
  else
    (X_validProc ob i3).bind fun r4 =>
    if r4 = (0 : Int32) then
      some (-1 : Int32)
    else
      (X_copyIndex ob i1 i2 i3).bind fun r7 =>
      chk (512 : Int32) r7 <|
      some (gA ob 5 r7)
set_option maxRecDepth 65536 in
set_option maxHeartbeats 4000000 in
theorem X_copies_p {C : Ctx} {top : Nat} {a : Nat} {H : List (Nat × Nat × Rec)} {ob : Rec} {res : Int32} (i1 : Int32) (i2 : Int32) (i3 : Int32) (hf : X_copies ob i1 i2 i3 = some res) : Runs C B5 0 0 0 [vr a, vi i1, vi i2, vi i3, vn] [] (top, (a, 9, ob) :: H) (Ans (some (.int res)) (top, (a, 9, ob) :: H)) := by
  delta X_copies at hf
  refine Runs.aloadN d5_0 rfl <| Runs.iloadN d5_1 rfl <| Runs.iloadN d5_2 rfl <| ?_
  refine bind_el hf fun r1 hg2 hf => ?_
  refine Runs.callP (N := B4) (W := 0) (as := [.int i1, .int i2]) (S' := []) d5_3 w44 w45 w46 rfl cw4 ar4 rk5_4_0 (by decide) rfl rfl (X_exists_pay hg2) <| ans1 <| ?_
  refine ite_el hf (fun hc3 hf => ?_) (fun hc3 hf => ?_)
  · refine Runs.ifY (pc' := 17) d5_6 (teq hc3).1 (by decide) <| ?_
    obtain rfl := Option.some.inj hf
    exact Runs.iconst d5_17 ci_m1 <| Runs.retI d5_18 rfl ⟨by decide, by decide⟩ ⟨rfl, rfl⟩
  · refine Runs.ifN d5_6 (feq hc3).1 <| ?_
    refine Runs.aloadN d5_9 rfl <| Runs.iloadN d5_10 rfl <| ?_
    refine bind_el hf fun r4 hg5 hf => ?_
    refine Runs.callP (N := B7) (W := 0) (as := [.int i3]) (S' := []) d5_11 w58 w59 w60 rfl cw7 ar7 rk5_7_0 (by decide) rfl rfl (X_validProc_pay hg5) <| ans1 <| ?_
    refine ite_el hf (fun hc6 hf => ?_) (fun hc6 hf => ?_)
    · refine Runs.ifN d5_14 (teq hc6).2 <| ?_
      obtain rfl := Option.some.inj hf
      exact Runs.iconst d5_17 ci_m1 <| Runs.retI d5_18 rfl ⟨by decide, by decide⟩ ⟨rfl, rfl⟩
    · refine Runs.ifY (pc' := 19) d5_14 (feq hc6).2 (by decide) <| ?_
      refine Runs.aloadN d5_19 rfl <| Runs.iloadN d5_20 rfl <| Runs.iloadN d5_21 rfl <| Runs.iloadN d5_22 rfl <| ?_
      refine bind_el hf fun r7 hg8 hf => ?_
      refine Runs.callP (N := B18) (W := 0) (as := [.int i1, .int i2, .int i3]) (S' := []) d5_23 w109 w110 w111 rfl cw18 ar18 rk5_18_0 (by decide) rfl rfl (X_copyIndex_pay hg8) <| ans1 <| Runs.istore (P' := [vr a, vi i1, vi i2, vi i3, vi r7]) d5_26 (by decide) rfl <| Runs.aloadN d5_28 rfl <| Runs.getA d5_29 fA_5 w21 (by decide) <| Runs.iload d5_32 rfl <| ?_
      refine chk_el hf fun hi9 hf => ?_
      obtain rfl := Option.some.inj hf
      exact Runs.ialoadA d5_34 fA_5 (by decide) hi9 <| Runs.retI d5_35 rfl ⟨by decide, by decide⟩ ⟨rfl, rfl⟩
theorem X_copies_pay {C : Ctx} {top : Nat} {a : Nat} {H : List (Nat × Nat × Rec)} {ob : Rec} {res : Int32} {i1 : Int32} {i2 : Int32} {i3 : Int32} (hf : X_copies ob i1 i2 i3 = some res) : Pays C B5 [.ref a, .int i1, .int i2, .int i3] (top, (a, 9, ob) :: H) (Ans (some (.int res)) (top, (a, 9, ob) :: H)) :=
  Pays.of pnK (Nat.le_of_ble_eq_true rfl) (P := [vr a, vi i1, vi i2, vi i3, vn]) 1 rfl (X_copies_p i1 i2 i3 hf)
def X_stateIndex (ob : Rec) (i1 : Int32) (i2 : Int32) (i3 : Int32) : Option (Int32) :=
  some ((((i1 * (64 : Int32)) + (i2 * (8 : Int32))) + i3) - (1 : Int32))
set_option maxRecDepth 65536 in
set_option maxHeartbeats 4000000 in
theorem X_stateIndex_p {C : Ctx} {top : Nat} {a : Nat} {H : List (Nat × Nat × Rec)} {ob : Rec} {res : Int32} (i1 : Int32) (i2 : Int32) (i3 : Int32) (hf : X_stateIndex ob i1 i2 i3 = some res) : Runs C B17 0 0 0 [vr a, vi i1, vi i2, vi i3] [] (top, (a, 9, ob) :: H) (Ans (some (.int res)) (top, (a, 9, ob) :: H)) := by
  delta X_stateIndex at hf
  obtain rfl := Option.some.inj hf
  exact Runs.iloadN d17_0 rfl <| Runs.bipush d17_1 cb_64 <| Runs.imul d17_3 <| Runs.iloadN d17_4 rfl <| Runs.bipush d17_5 cb_8 <| Runs.imul d17_7 <| Runs.iadd d17_8 <| Runs.iloadN d17_9 rfl <| Runs.iadd d17_10 <| Runs.iconst d17_11 ci_1 <| Runs.isub d17_12 <| Runs.retI d17_13 rfl ⟨by decide, by decide⟩ ⟨rfl, rfl⟩
theorem X_stateIndex_pay {C : Ctx} {top : Nat} {a : Nat} {H : List (Nat × Nat × Rec)} {ob : Rec} {res : Int32} {i1 : Int32} {i2 : Int32} {i3 : Int32} (hf : X_stateIndex ob i1 i2 i3 = some res) : Pays C B17 [.ref a, .int i1, .int i2, .int i3] (top, (a, 9, ob) :: H) (Ans (some (.int res)) (top, (a, 9, ob) :: H)) :=
  Pays.of pnK (Nat.le_of_ble_eq_true rfl) (P := [vr a, vi i1, vi i2, vi i3]) 0 rfl (X_stateIndex_p i1 i2 i3 hf)
def X_state (ob : Rec) (i1 : Int32) (i2 : Int32) (i3 : Int32) : Option (Int32) :=
  (X_validProc ob i1).bind fun r1 =>
  if r1 = (0 : Int32) then
    some (-1 : Int32)
  else
    (X_exists ob i2 i3).bind fun r4 =>
    if r4 = (0 : Int32) then
      some (-1 : Int32)
    else
      (X_stateIndex ob i1 i2 i3).bind fun r7 =>
      chk (512 : Int32) r7 <|
      some (gA ob 3 r7)
set_option maxRecDepth 65536 in
set_option maxHeartbeats 4000000 in
theorem X_state_p {C : Ctx} {top : Nat} {a : Nat} {H : List (Nat × Nat × Rec)} {ob : Rec} {res : Int32} (i1 : Int32) (i2 : Int32) (i3 : Int32) (hf : X_state ob i1 i2 i3 = some res) : Runs C B6 0 0 0 [vr a, vi i1, vi i2, vi i3, vn] [] (top, (a, 9, ob) :: H) (Ans (some (.int res)) (top, (a, 9, ob) :: H)) := by
  delta X_state at hf
  refine Runs.aloadN d6_0 rfl <| Runs.iloadN d6_1 rfl <| ?_
  refine bind_el hf fun r1 hg2 hf => ?_
  refine Runs.callP (N := B7) (W := 0) (as := [.int i1]) (S' := []) d6_2 w58 w59 w60 rfl cw7 ar7 rk6_7_0 (by decide) rfl rfl (X_validProc_pay hg2) <| ans1 <| ?_
  refine ite_el hf (fun hc3 hf => ?_) (fun hc3 hf => ?_)
  · refine Runs.ifY (pc' := 17) d6_5 (teq hc3).1 (by decide) <| ?_
    obtain rfl := Option.some.inj hf
    exact Runs.iconst d6_17 ci_m1 <| Runs.retI d6_18 rfl ⟨by decide, by decide⟩ ⟨rfl, rfl⟩
  · refine Runs.ifN d6_5 (feq hc3).1 <| ?_
    refine Runs.aloadN d6_8 rfl <| Runs.iloadN d6_9 rfl <| Runs.iloadN d6_10 rfl <| ?_
    refine bind_el hf fun r4 hg5 hf => ?_
    refine Runs.callP (N := B4) (W := 0) (as := [.int i2, .int i3]) (S' := []) d6_11 w44 w45 w46 rfl cw4 ar4 rk6_4_0 (by decide) rfl rfl (X_exists_pay hg5) <| ans1 <| ?_
    refine ite_el hf (fun hc6 hf => ?_) (fun hc6 hf => ?_)
    · refine Runs.ifN d6_14 (teq hc6).2 <| ?_
      obtain rfl := Option.some.inj hf
      exact Runs.iconst d6_17 ci_m1 <| Runs.retI d6_18 rfl ⟨by decide, by decide⟩ ⟨rfl, rfl⟩
    · refine Runs.ifY (pc' := 19) d6_14 (feq hc6).2 (by decide) <| ?_
      refine Runs.aloadN d6_19 rfl <| Runs.iloadN d6_20 rfl <| Runs.iloadN d6_21 rfl <| Runs.iloadN d6_22 rfl <| ?_
      refine bind_el hf fun r7 hg8 hf => ?_
      refine Runs.callP (N := B17) (W := 0) (as := [.int i1, .int i2, .int i3]) (S' := []) d6_23 w105 w106 w107 rfl cw17 ar17 rk6_17_0 (by decide) rfl rfl (X_stateIndex_pay hg8) <| ans1 <| Runs.istore (P' := [vr a, vi i1, vi i2, vi i3, vi r7]) d6_26 (by decide) rfl <| Runs.aloadN d6_28 rfl <| Runs.getA d6_29 fA_3 w17 (by decide) <| Runs.iload d6_32 rfl <| ?_
      refine chk_el hf fun hi9 hf => ?_
      obtain rfl := Option.some.inj hf
      exact Runs.ialoadA d6_34 fA_3 (by decide) hi9 <| Runs.retI d6_35 rfl ⟨by decide, by decide⟩ ⟨rfl, rfl⟩
theorem X_state_pay {C : Ctx} {top : Nat} {a : Nat} {H : List (Nat × Nat × Rec)} {ob : Rec} {res : Int32} {i1 : Int32} {i2 : Int32} {i3 : Int32} (hf : X_state ob i1 i2 i3 = some res) : Pays C B6 [.ref a, .int i1, .int i2, .int i3] (top, (a, 9, ob) :: H) (Ans (some (.int res)) (top, (a, 9, ob) :: H)) :=
  Pays.of pnK (Nat.le_of_ble_eq_true rfl) (P := [vr a, vi i1, vi i2, vi i3, vn]) 1 rfl (X_state_p i1 i2 i3 hf)
def X_knownIndex (ob : Rec) (i1 : Int32) (i2 : Int32) (i3 : Int32) : Option (Int32) :=
  some (((i1 * (64 : Int32)) + (i2 * (8 : Int32))) + i3)
set_option maxRecDepth 65536 in
set_option maxHeartbeats 4000000 in
theorem X_knownIndex_p {C : Ctx} {top : Nat} {a : Nat} {H : List (Nat × Nat × Rec)} {ob : Rec} {res : Int32} (i1 : Int32) (i2 : Int32) (i3 : Int32) (hf : X_knownIndex ob i1 i2 i3 = some res) : Runs C B9 0 0 0 [vr a, vi i1, vi i2, vi i3] [] (top, (a, 9, ob) :: H) (Ans (some (.int res)) (top, (a, 9, ob) :: H)) := by
  delta X_knownIndex at hf
  obtain rfl := Option.some.inj hf
  exact Runs.iloadN d9_0 rfl <| Runs.bipush d9_1 cb_64 <| Runs.imul d9_3 <| Runs.iloadN d9_4 rfl <| Runs.bipush d9_5 cb_8 <| Runs.imul d9_7 <| Runs.iadd d9_8 <| Runs.iloadN d9_9 rfl <| Runs.iadd d9_10 <| Runs.retI d9_11 rfl ⟨by decide, by decide⟩ ⟨rfl, rfl⟩
theorem X_knownIndex_pay {C : Ctx} {top : Nat} {a : Nat} {H : List (Nat × Nat × Rec)} {ob : Rec} {res : Int32} {i1 : Int32} {i2 : Int32} {i3 : Int32} (hf : X_knownIndex ob i1 i2 i3 = some res) : Pays C B9 [.ref a, .int i1, .int i2, .int i3] (top, (a, 9, ob) :: H) (Ans (some (.int res)) (top, (a, 9, ob) :: H)) :=
  Pays.of pnK (Nat.le_of_ble_eq_true rfl) (P := [vr a, vi i1, vi i2, vi i3]) 0 rfl (X_knownIndex_p i1 i2 i3 hf)
def X_known (ob : Rec) (i1 : Int32) (i2 : Int32) (i3 : Int32) : Option (Int32) :=
  (X_validProc ob i1).bind fun r1 =>
  if r1 = (0 : Int32) then
    some (-1 : Int32)
  else
    (X_validProc ob i2).bind fun r4 =>
    if r4 = (0 : Int32) then
      some (-1 : Int32)
    else
      (X_validProc ob i3).bind fun r7 =>
      if r7 = (0 : Int32) then
        some (-1 : Int32)
      else
        (X_knownIndex ob i1 i2 i3).bind fun r10 =>
        chk (512 : Int32) r10 <|
        some (gA ob 6 r10)
set_option maxRecDepth 65536 in
set_option maxHeartbeats 4000000 in
theorem X_known_p {C : Ctx} {top : Nat} {a : Nat} {H : List (Nat × Nat × Rec)} {ob : Rec} {res : Int32} (i1 : Int32) (i2 : Int32) (i3 : Int32) (hf : X_known ob i1 i2 i3 = some res) : Runs C B8 0 0 0 [vr a, vi i1, vi i2, vi i3, vn] [] (top, (a, 9, ob) :: H) (Ans (some (.int res)) (top, (a, 9, ob) :: H)) := by
  delta X_known at hf
  refine Runs.aloadN d8_0 rfl <| Runs.iloadN d8_1 rfl <| ?_
  refine bind_el hf fun r1 hg2 hf => ?_
  refine Runs.callP (N := B7) (W := 0) (as := [.int i1]) (S' := []) d8_2 w58 w59 w60 rfl cw7 ar7 rk8_7_0 (by decide) rfl rfl (X_validProc_pay hg2) <| ans1 <| ?_
  refine ite_el hf (fun hc3 hf => ?_) (fun hc3 hf => ?_)
  · refine Runs.ifY (pc' := 24) d8_5 (teq hc3).1 (by decide) <| ?_
    obtain rfl := Option.some.inj hf
    exact Runs.iconst d8_24 ci_m1 <| Runs.retI d8_25 rfl ⟨by decide, by decide⟩ ⟨rfl, rfl⟩
  · refine Runs.ifN d8_5 (feq hc3).1 <| ?_
    refine Runs.aloadN d8_8 rfl <| Runs.iloadN d8_9 rfl <| ?_
    refine bind_el hf fun r4 hg5 hf => ?_
    refine Runs.callP (N := B7) (W := 0) (as := [.int i2]) (S' := []) d8_10 w58 w59 w60 rfl cw7 ar7 rk8_7_0 (by decide) rfl rfl (X_validProc_pay hg5) <| ans1 <| ?_
    refine ite_el hf (fun hc6 hf => ?_) (fun hc6 hf => ?_)
    · refine Runs.ifY (pc' := 24) d8_13 (teq hc6).1 (by decide) <| ?_
      obtain rfl := Option.some.inj hf
      exact Runs.iconst d8_24 ci_m1 <| Runs.retI d8_25 rfl ⟨by decide, by decide⟩ ⟨rfl, rfl⟩
    · refine Runs.ifN d8_13 (feq hc6).1 <| ?_
      refine Runs.aloadN d8_16 rfl <| Runs.iloadN d8_17 rfl <| ?_
      refine bind_el hf fun r7 hg8 hf => ?_
      refine Runs.callP (N := B7) (W := 0) (as := [.int i3]) (S' := []) d8_18 w58 w59 w60 rfl cw7 ar7 rk8_7_0 (by decide) rfl rfl (X_validProc_pay hg8) <| ans1 <| ?_
      refine ite_el hf (fun hc9 hf => ?_) (fun hc9 hf => ?_)
      · refine Runs.ifN d8_21 (teq hc9).2 <| ?_
        obtain rfl := Option.some.inj hf
        exact Runs.iconst d8_24 ci_m1 <| Runs.retI d8_25 rfl ⟨by decide, by decide⟩ ⟨rfl, rfl⟩
      · refine Runs.ifY (pc' := 26) d8_21 (feq hc9).2 (by decide) <| ?_
        refine Runs.aloadN d8_26 rfl <| Runs.iloadN d8_27 rfl <| Runs.iloadN d8_28 rfl <| Runs.iloadN d8_29 rfl <| ?_
        refine bind_el hf fun r10 hg11 hf => ?_
        refine Runs.callP (N := B9) (W := 0) (as := [.int i1, .int i2, .int i3]) (S' := []) d8_30 w67 w68 w69 rfl cw9 ar9 rk8_9_0 (by decide) rfl rfl (X_knownIndex_pay hg11) <| ans1 <| Runs.istore (P' := [vr a, vi i1, vi i2, vi i3, vi r10]) d8_33 (by decide) rfl <| Runs.aloadN d8_35 rfl <| Runs.getA d8_36 fA_6 w23 (by decide) <| Runs.iload d8_39 rfl <| ?_
        refine chk_el hf fun hi12 hf => ?_
        obtain rfl := Option.some.inj hf
        exact Runs.ialoadA d8_41 fA_6 (by decide) hi12 <| Runs.retI d8_42 rfl ⟨by decide, by decide⟩ ⟨rfl, rfl⟩
theorem X_known_pay {C : Ctx} {top : Nat} {a : Nat} {H : List (Nat × Nat × Rec)} {ob : Rec} {res : Int32} {i1 : Int32} {i2 : Int32} {i3 : Int32} (hf : X_known ob i1 i2 i3 = some res) : Pays C B8 [.ref a, .int i1, .int i2, .int i3] (top, (a, 9, ob) :: H) (Ans (some (.int res)) (top, (a, 9, ob) :: H)) :=
  Pays.of pnK (Nat.le_of_ble_eq_true rfl) (P := [vr a, vi i1, vi i2, vi i3, vn]) 1 rfl (X_known_p i1 i2 i3 hf)
def X_deliveredAt (ob : Rec) (i1 : Int32) (i2 : Int32) : Option (Int32) :=
  (X_validProc ob i1).bind fun r1 =>
  if r1 = (0 : Int32) then
    some (-1 : Int32)
  else
    if i2 < (0 : Int32) then
      some (-1 : Int32)
    else
      chk (8 : Int32) i1 <|
      if i2 < (gA ob 8 i1) then
        if i2 < (64 : Int32) then
          chk (512 : Int32) ((i1 * (64 : Int32)) + i2) <|
          some (gA ob 7 ((i1 * (64 : Int32)) + i2))
        else
          some (-1 : Int32)
      else
        some (-1 : Int32)
set_option maxRecDepth 65536 in
set_option maxHeartbeats 4000000 in
theorem X_deliveredAt_p {C : Ctx} {top : Nat} {a : Nat} {H : List (Nat × Nat × Rec)} {ob : Rec} {res : Int32} (i1 : Int32) (i2 : Int32) (hf : X_deliveredAt ob i1 i2 = some res) : Runs C B10 0 0 0 [vr a, vi i1, vi i2] [] (top, (a, 9, ob) :: H) (Ans (some (.int res)) (top, (a, 9, ob) :: H)) := by
  delta X_deliveredAt at hf
  refine Runs.aloadN d10_0 rfl <| Runs.iloadN d10_1 rfl <| ?_
  refine bind_el hf fun r1 hg2 hf => ?_
  refine Runs.callP (N := B7) (W := 0) (as := [.int i1]) (S' := []) d10_2 w58 w59 w60 rfl cw7 ar7 rk10_7_0 (by decide) rfl rfl (X_validProc_pay hg2) <| ans1 <| ?_
  refine ite_el hf (fun hc3 hf => ?_) (fun hc3 hf => ?_)
  · refine Runs.ifN d10_5 (teq hc3).2 <| ?_
    obtain rfl := Option.some.inj hf
    exact Runs.iconst d10_8 ci_m1 <| Runs.retI d10_9 rfl ⟨by decide, by decide⟩ ⟨rfl, rfl⟩
  · refine Runs.ifY (pc' := 10) d10_5 (feq hc3).2 (by decide) <| ?_
    refine Runs.iloadN d10_10 rfl <| ?_
    refine ite_el hf (fun hc4 hf => ?_) (fun hc4 hf => ?_)
    · refine Runs.ifY (pc' := 30) d10_11 (tlt hc4).1 (by decide) <| ?_
      obtain rfl := Option.some.inj hf
      exact Runs.iconst d10_30 ci_m1 <| Runs.retI d10_31 rfl ⟨by decide, by decide⟩ ⟨rfl, rfl⟩
    · refine Runs.ifN d10_11 (flt hc4).1 <| ?_
      refine Runs.iloadN d10_14 rfl <| Runs.aloadN d10_15 rfl <| Runs.getA d10_16 fA_8 w27 (by decide) <| Runs.iloadN d10_19 rfl <| ?_
      refine chk_el hf fun hi5 hf => ?_
      refine Runs.ialoadA d10_20 fA_8 (by decide) hi5 <| ?_
      refine ite_el hf (fun hc6 hf => ?_) (fun hc6 hf => ?_)
      · refine Runs.icN d10_21 (tlt hc6).2.1 <| ?_
        refine Runs.iloadN d10_24 rfl <| Runs.bipush d10_25 cb_64 <| ?_
        refine ite_el hf (fun hc7 hf => ?_) (fun hc7 hf => ?_)
        · refine Runs.icY (pc' := 32) d10_27 (tlt hc7).1 (by decide) <| ?_
          refine Runs.aloadN d10_32 rfl <| Runs.getA d10_33 fA_7 w25 (by decide) <| Runs.iloadN d10_36 rfl <| Runs.bipush d10_37 cb_64 <| Runs.imul d10_39 <| Runs.iloadN d10_40 rfl <| Runs.iadd d10_41 <| ?_
          refine chk_el hf fun hi8 hf => ?_
          obtain rfl := Option.some.inj hf
          exact Runs.ialoadA d10_42 fA_7 (by decide) hi8 <| Runs.retI d10_43 rfl ⟨by decide, by decide⟩ ⟨rfl, rfl⟩
        · refine Runs.icN d10_27 (flt hc7).1 <| ?_
          obtain rfl := Option.some.inj hf
          exact Runs.iconst d10_30 ci_m1 <| Runs.retI d10_31 rfl ⟨by decide, by decide⟩ ⟨rfl, rfl⟩
      · refine Runs.icY (pc' := 30) d10_21 (flt hc6).2.1 (by decide) <| ?_
        obtain rfl := Option.some.inj hf
        exact Runs.iconst d10_30 ci_m1 <| Runs.retI d10_31 rfl ⟨by decide, by decide⟩ ⟨rfl, rfl⟩
theorem X_deliveredAt_pay {C : Ctx} {top : Nat} {a : Nat} {H : List (Nat × Nat × Rec)} {ob : Rec} {res : Int32} {i1 : Int32} {i2 : Int32} (hf : X_deliveredAt ob i1 i2 = some res) : Pays C B10 [.ref a, .int i1, .int i2] (top, (a, 9, ob) :: H) (Ans (some (.int res)) (top, (a, 9, ob) :: H)) :=
  Pays.of pnK (Nat.le_of_ble_eq_true rfl) (P := [vr a, vi i1, vi i2]) 0 rfl (X_deliveredAt_p i1 i2 hf)
def X_delivered (ob : Rec) (i1 : Int32) (i2 : Int32) : Option (Int32) :=
  (X_validProc ob i1).bind fun r1 =>
  if r1 = (0 : Int32) then
    some (-1 : Int32)
  else
    (X_validProc ob i2).bind fun r4 =>
    if r4 = (0 : Int32) then
      some (-1 : Int32)
    else
      chk (64 : Int32) ((i1 * (8 : Int32)) + i2) <|
      some (gA ob 2 ((i1 * (8 : Int32)) + i2))
set_option maxRecDepth 65536 in
set_option maxHeartbeats 4000000 in
theorem X_delivered_p {C : Ctx} {top : Nat} {a : Nat} {H : List (Nat × Nat × Rec)} {ob : Rec} {res : Int32} (i1 : Int32) (i2 : Int32) (hf : X_delivered ob i1 i2 = some res) : Runs C B11 0 0 0 [vr a, vi i1, vi i2] [] (top, (a, 9, ob) :: H) (Ans (some (.int res)) (top, (a, 9, ob) :: H)) := by
  delta X_delivered at hf
  refine Runs.aloadN d11_0 rfl <| Runs.iloadN d11_1 rfl <| ?_
  refine bind_el hf fun r1 hg2 hf => ?_
  refine Runs.callP (N := B7) (W := 0) (as := [.int i1]) (S' := []) d11_2 w58 w59 w60 rfl cw7 ar7 rk11_7_0 (by decide) rfl rfl (X_validProc_pay hg2) <| ans1 <| ?_
  refine ite_el hf (fun hc3 hf => ?_) (fun hc3 hf => ?_)
  · refine Runs.ifY (pc' := 16) d11_5 (teq hc3).1 (by decide) <| ?_
    obtain rfl := Option.some.inj hf
    exact Runs.iconst d11_16 ci_m1 <| Runs.retI d11_17 rfl ⟨by decide, by decide⟩ ⟨rfl, rfl⟩
  · refine Runs.ifN d11_5 (feq hc3).1 <| ?_
    refine Runs.aloadN d11_8 rfl <| Runs.iloadN d11_9 rfl <| ?_
    refine bind_el hf fun r4 hg5 hf => ?_
    refine Runs.callP (N := B7) (W := 0) (as := [.int i2]) (S' := []) d11_10 w58 w59 w60 rfl cw7 ar7 rk11_7_0 (by decide) rfl rfl (X_validProc_pay hg5) <| ans1 <| ?_
    refine ite_el hf (fun hc6 hf => ?_) (fun hc6 hf => ?_)
    · refine Runs.ifN d11_13 (teq hc6).2 <| ?_
      obtain rfl := Option.some.inj hf
      exact Runs.iconst d11_16 ci_m1 <| Runs.retI d11_17 rfl ⟨by decide, by decide⟩ ⟨rfl, rfl⟩
    · refine Runs.ifY (pc' := 18) d11_13 (feq hc6).2 (by decide) <| ?_
      refine Runs.aloadN d11_18 rfl <| Runs.getA d11_19 fA_2 w15 (by decide) <| Runs.iloadN d11_22 rfl <| Runs.bipush d11_23 cb_8 <| Runs.imul d11_25 <| Runs.iloadN d11_26 rfl <| Runs.iadd d11_27 <| ?_
      refine chk_el hf fun hi7 hf => ?_
      obtain rfl := Option.some.inj hf
      exact Runs.ialoadA d11_28 fA_2 (by decide) hi7 <| Runs.retI d11_29 rfl ⟨by decide, by decide⟩ ⟨rfl, rfl⟩
theorem X_delivered_pay {C : Ctx} {top : Nat} {a : Nat} {H : List (Nat × Nat × Rec)} {ob : Rec} {res : Int32} {i1 : Int32} {i2 : Int32} (hf : X_delivered ob i1 i2 = some res) : Pays C B11 [.ref a, .int i1, .int i2] (top, (a, 9, ob) :: H) (Ans (some (.int res)) (top, (a, 9, ob) :: H)) :=
  Pays.of pnK (Nat.le_of_ble_eq_true rfl) (P := [vr a, vi i1, vi i2]) 0 rfl (X_delivered_p i1 i2 hf)
def X_sent (ob : Rec) (i1 : Int32) : Option (Int32) :=
  (X_validProc ob i1).bind fun r1 =>
  if r1 = (0 : Int32) then
    some (-1 : Int32)
  else
    chk (8 : Int32) i1 <|
    some (gA ob 0 i1)
set_option maxRecDepth 65536 in
set_option maxHeartbeats 4000000 in
theorem X_sent_p {C : Ctx} {top : Nat} {a : Nat} {H : List (Nat × Nat × Rec)} {ob : Rec} {res : Int32} (i1 : Int32) (hf : X_sent ob i1 = some res) : Runs C B12 0 0 0 [vr a, vi i1] [] (top, (a, 9, ob) :: H) (Ans (some (.int res)) (top, (a, 9, ob) :: H)) := by
  delta X_sent at hf
  refine Runs.aloadN d12_0 rfl <| Runs.iloadN d12_1 rfl <| ?_
  refine bind_el hf fun r1 hg2 hf => ?_
  refine Runs.callP (N := B7) (W := 0) (as := [.int i1]) (S' := []) d12_2 w58 w59 w60 rfl cw7 ar7 rk12_7_0 (by decide) rfl rfl (X_validProc_pay hg2) <| ans1 <| ?_
  refine ite_el hf (fun hc3 hf => ?_) (fun hc3 hf => ?_)
  · refine Runs.ifN d12_5 (teq hc3).2 <| ?_
    obtain rfl := Option.some.inj hf
    exact Runs.iconst d12_8 ci_m1 <| Runs.retI d12_9 rfl ⟨by decide, by decide⟩ ⟨rfl, rfl⟩
  · refine Runs.ifY (pc' := 10) d12_5 (feq hc3).2 (by decide) <| ?_
    refine Runs.aloadN d12_10 rfl <| Runs.getA d12_11 fA_0 w10 (by decide) <| Runs.iloadN d12_14 rfl <| ?_
    refine chk_el hf fun hi4 hf => ?_
    obtain rfl := Option.some.inj hf
    exact Runs.ialoadA d12_15 fA_0 (by decide) hi4 <| Runs.retI d12_16 rfl ⟨by decide, by decide⟩ ⟨rfl, rfl⟩
theorem X_sent_pay {C : Ctx} {top : Nat} {a : Nat} {H : List (Nat × Nat × Rec)} {ob : Rec} {res : Int32} {i1 : Int32} (hf : X_sent ob i1 = some res) : Pays C B12 [.ref a, .int i1] (top, (a, 9, ob) :: H) (Ans (some (.int res)) (top, (a, 9, ob) :: H)) :=
  Pays.of pnK (Nat.le_of_ble_eq_true rfl) (P := [vr a, vi i1]) 0 rfl (X_sent_p i1 hf)
def X_isCrashed (ob : Rec) (i1 : Int32) : Option (Int32) :=
  (X_validProc ob i1).bind fun r1 =>
  if r1 = (0 : Int32) then
    some (0 : Int32)
  else
    chk (8 : Int32) i1 <|
    some ((gA ob 1 i1) &&& 1)
set_option maxRecDepth 65536 in
set_option maxHeartbeats 4000000 in
theorem X_isCrashed_p {C : Ctx} {top : Nat} {a : Nat} {H : List (Nat × Nat × Rec)} {ob : Rec} {res : Int32} (i1 : Int32) (hf : X_isCrashed ob i1 = some res) : Runs C B13 0 0 0 [vr a, vi i1] [] (top, (a, 9, ob) :: H) (Ans (some (.int res)) (top, (a, 9, ob) :: H)) := by
  delta X_isCrashed at hf
  refine Runs.aloadN d13_0 rfl <| Runs.iloadN d13_1 rfl <| ?_
  refine bind_el hf fun r1 hg2 hf => ?_
  refine Runs.callP (N := B7) (W := 0) (as := [.int i1]) (S' := []) d13_2 w58 w59 w60 rfl cw7 ar7 rk13_7_0 (by decide) rfl rfl (X_validProc_pay hg2) <| ans1 <| ?_
  refine ite_el hf (fun hc3 hf => ?_) (fun hc3 hf => ?_)
  · refine Runs.ifN d13_5 (teq hc3).2 <| ?_
    obtain rfl := Option.some.inj hf
    exact Runs.iconst d13_8 ci_0 <| Runs.retZ (y := (0 : Int32)) d13_9 rfl ⟨by decide, by decide⟩ rfl ⟨rfl, rfl⟩
  · refine Runs.ifY (pc' := 10) d13_5 (feq hc3).2 (by decide) <| ?_
    refine Runs.aloadN d13_10 rfl <| Runs.getA d13_11 fA_1 w13 (by decide) <| Runs.iloadN d13_14 rfl <| ?_
    refine chk_el hf fun hi4 hf => ?_
    obtain rfl := Option.some.inj hf
    exact Runs.baloadA d13_15 fA_1 (by decide) hi4 <| Runs.retZ (y := ((gA ob 1 i1) &&& 1)) d13_16 rfl ⟨by decide, by decide⟩ rfl ⟨rfl, rfl⟩
theorem X_isCrashed_pay {C : Ctx} {top : Nat} {a : Nat} {H : List (Nat × Nat × Rec)} {ob : Rec} {res : Int32} {i1 : Int32} (hf : X_isCrashed ob i1 = some res) : Pays C B13 [.ref a, .int i1] (top, (a, 9, ob) :: H) (Ans (some (.int res)) (top, (a, 9, ob) :: H)) :=
  Pays.of pnK (Nat.le_of_ble_eq_true rfl) (P := [vr a, vi i1]) 0 rfl (X_isCrashed_p i1 hf)
def L_fp_w198 (NF : Nat) (ob : Rec) (k198 : Int64 → Int32 → Option (Int64)) (l1 : Int64) (i3 : Int32) : Option (Int64) :=
  if i3 < (3 : Int32) then
    (X_sent ob i3).bind fun r18 =>
    (X_isCrashed ob i3).bind fun r20 =>
    if r20 = (0 : Int32) then
      k198 ((((l1 * (1000003 : Int64)) + r18.toInt64) * (1000003 : Int64)) + (11 : Int64)) (i3 + (1 : Int32))
    else
      k198 ((((l1 * (1000003 : Int64)) + r18.toInt64) * (1000003 : Int64)) + (7 : Int64)) (i3 + (1 : Int32))
  else
    some l1
def L_fp_l198 (NF : Nat) (ob : Rec) : Nat → Int64 → Int32 → Option (Int64)
  | 0, _, _ => none
  | n + 1, l1, i3 => L_fp_w198 NF ob (L_fp_l198 NF ob n) l1 i3
set_option maxRecDepth 65536 in
set_option maxHeartbeats 4000000 in
theorem L_fp_w198_p {C : Ctx} {top : Nat} {a : Nat} {H : List (Nat × Nat × Rec)} {ob : Rec} {res : Int64} {NF : Nat} (k198 : Int64 → Int32 → Option (Int64)) (hk198 : ∀ (l1 : Int64) (i3 : Int32), k198 l1 i3 = some res → Runs C B2 0 0 198 [vr a, vl l1, v2, vi i3, vn, vn, vn] [] (top, (a, 9, ob) :: H) (Ans (some (.long res)) (top, (a, 9, ob) :: H))) (l1 : Int64) (i3 : Int32) (hf : L_fp_w198 NF ob k198 l1 i3 = some res) : Runs C B2 0 0 198 [vr a, vl l1, v2, vi i3, vn, vn, vn] [] (top, (a, 9, ob) :: H) (Ans (some (.long res)) (top, (a, 9, ob) :: H)) := by
  delta L_fp_w198 at hf
  refine Runs.iloadN d2_198 rfl <| Runs.iconst d2_199 ci_3 <| ?_
  refine ite_el hf (fun hc17 hf => ?_) (fun hc17 hf => ?_)
  · refine Runs.icN d2_200 (tlt hc17).2.1 <| ?_
    refine Runs.lloadN d2_203 rfl <| Runs.ldc2 d2_204 w38 <| Runs.lmul d2_207 <| Runs.aloadN d2_208 rfl <| Runs.iloadN d2_209 rfl <| ?_
    refine bind_el hf fun r18 hg19 hf => ?_
    refine Runs.callV (N := B12) (W := 2) (as := [.int i3]) (S' := [.long (l1 * (1000003 : Int64))]) d2_210 w81 w82 w83 w84 cw12 ar12 rk2_12_2 (by decide) rfl rfl (X_sent_pay hg19) <| ans1 <| Runs.i2l d2_213 <| Runs.ladd d2_214 <| Runs.lstoreN (P' := [vr a, vl ((l1 * (1000003 : Int64)) + r18.toInt64), v2, vi i3, vn, vn, vn]) d2_215 (by decide) rfl <| Runs.aloadN d2_216 rfl <| Runs.iloadN d2_217 rfl <| ?_
    refine bind_el hf fun r20 hg21 hf => ?_
    refine Runs.callV (N := B13) (W := 0) (as := [.int i3]) (S' := []) d2_218 w86 w87 w88 w89 cw13 ar13 rk2_13_0 (by decide) rfl rfl (X_isCrashed_pay hg21) <| ans1 <| ?_
    refine ite_el hf (fun hc22 hf => ?_) (fun hc22 hf => ?_)
    · refine Runs.ifY (pc' := 237) d2_221 (teq hc22).1 (by decide) <| ?_
      exact Runs.lloadN d2_237 rfl <| Runs.ldc2 d2_238 w38 <| Runs.lmul d2_241 <| Runs.ldc2 d2_242 w91 <| Runs.ladd d2_245 <| Runs.lstoreN (P' := [vr a, vl ((((l1 * (1000003 : Int64)) + r18.toInt64) * (1000003 : Int64)) + (11 : Int64)), v2, vi i3, vn, vn, vn]) d2_246 (by decide) rfl <| Runs.iinc (P' := [vr a, vl ((((l1 * (1000003 : Int64)) + r18.toInt64) * (1000003 : Int64)) + (11 : Int64)), v2, vi (i3 + (1 : Int32)), vn, vn, vn]) d2_247 ci_1 rfl (by decide) rfl <| Runs.goto (pc' := 198) d2_250 (by decide) <| hk198 ((((l1 * (1000003 : Int64)) + r18.toInt64) * (1000003 : Int64)) + (11 : Int64)) (i3 + (1 : Int32)) hf
    · refine Runs.ifN d2_221 (feq hc22).1 <| ?_
      exact Runs.lloadN d2_224 rfl <| Runs.ldc2 d2_225 w38 <| Runs.lmul d2_228 <| Runs.ldc2 d2_229 w127 <| Runs.ladd d2_232 <| Runs.lstoreN (P' := [vr a, vl ((((l1 * (1000003 : Int64)) + r18.toInt64) * (1000003 : Int64)) + (7 : Int64)), v2, vi i3, vn, vn, vn]) d2_233 (by decide) rfl <| Runs.goto (pc' := 247) d2_234 (by decide) <| Runs.iinc (P' := [vr a, vl ((((l1 * (1000003 : Int64)) + r18.toInt64) * (1000003 : Int64)) + (7 : Int64)), v2, vi (i3 + (1 : Int32)), vn, vn, vn]) d2_247 ci_1 rfl (by decide) rfl <| Runs.goto (pc' := 198) d2_250 (by decide) <| hk198 ((((l1 * (1000003 : Int64)) + r18.toInt64) * (1000003 : Int64)) + (7 : Int64)) (i3 + (1 : Int32)) hf
  · refine Runs.icY (pc' := 253) d2_200 (flt hc17).2.1 (by decide) <| ?_
    obtain rfl := Option.some.inj hf
    exact Runs.lloadN d2_253 rfl <| Runs.retJ d2_254 rfl ⟨by decide, by decide⟩ ⟨rfl, rfl⟩
theorem L_fp_l198_p {C : Ctx} {top : Nat} {a : Nat} {H : List (Nat × Nat × Rec)} {ob : Rec} {res : Int64} {NF : Nat} (n : Nat) (l1 : Int64) (i3 : Int32) (hf : L_fp_l198 NF ob n l1 i3 = some res) : Runs C B2 0 0 198 [vr a, vl l1, v2, vi i3, vn, vn, vn] [] (top, (a, 9, ob) :: H) (Ans (some (.long res)) (top, (a, 9, ob) :: H)) := by
  induction n generalizing l1 i3 with
  | zero => cases (show (none : Option (Int64)) = some res from hf)
  | succ n ih => exact L_fp_w198_p (L_fp_l198 NF ob n) (fun l1 i3 h => ih _ _ h) l1 i3 hf
def L_fp_w166 (NF : Nat) (ob : Rec) (k166 : Int64 → Int32 → Option (Int64)) (l1 : Int64) (i3 : Int32) : Option (Int64) :=
  if i3 < (9 : Int32) then
    (X_delivered ob (i3 / (3 : Int32)) (i3 % (3 : Int32))).bind fun r15 =>
    k166 ((l1 * (1000003 : Int64)) + r15.toInt64) (i3 + (1 : Int32))
  else
    L_fp_l198 NF ob NF l1 (0 : Int32)
def L_fp_l166 (NF : Nat) (ob : Rec) : Nat → Int64 → Int32 → Option (Int64)
  | 0, _, _ => none
  | n + 1, l1, i3 => L_fp_w166 NF ob (L_fp_l166 NF ob n) l1 i3
set_option maxRecDepth 65536 in
set_option maxHeartbeats 4000000 in
theorem L_fp_w166_p {C : Ctx} {top : Nat} {a : Nat} {H : List (Nat × Nat × Rec)} {ob : Rec} {res : Int64} {NF : Nat} (k166 : Int64 → Int32 → Option (Int64)) (hk166 : ∀ (l1 : Int64) (i3 : Int32), k166 l1 i3 = some res → Runs C B2 0 0 166 [vr a, vl l1, v2, vi i3, vn, vn, vn] [] (top, (a, 9, ob) :: H) (Ans (some (.long res)) (top, (a, 9, ob) :: H))) (l1 : Int64) (i3 : Int32) (hf : L_fp_w166 NF ob k166 l1 i3 = some res) : Runs C B2 0 0 166 [vr a, vl l1, v2, vi i3, vn, vn, vn] [] (top, (a, 9, ob) :: H) (Ans (some (.long res)) (top, (a, 9, ob) :: H)) := by
  delta L_fp_w166 at hf
  refine Runs.iloadN d2_166 rfl <| Runs.bipush d2_167 cb_9 <| ?_
  refine ite_el hf (fun hc14 hf => ?_) (fun hc14 hf => ?_)
  · refine Runs.icN d2_169 (tlt hc14).2.1 <| ?_
    refine Runs.lloadN d2_172 rfl <| Runs.ldc2 d2_173 w38 <| Runs.lmul d2_176 <| Runs.aloadN d2_177 rfl <| Runs.iloadN d2_178 rfl <| Runs.iconst d2_179 ci_3 <| Runs.idiv d2_180 (by decide) <| Runs.iloadN d2_181 rfl <| Runs.iconst d2_182 ci_3 <| Runs.irem d2_183 (by decide) <| ?_
    refine bind_el hf fun r15 hg16 hf => ?_
    exact Runs.callV (N := B11) (W := 2) (as := [.int (i3 / (3 : Int32)), .int (i3 % (3 : Int32))]) (S' := [.long (l1 * (1000003 : Int64))]) d2_184 w76 w77 w78 w79 cw11 ar11 rk2_11_2 (by decide) rfl rfl (X_delivered_pay hg16) <| ans1 <| Runs.i2l d2_187 <| Runs.ladd d2_188 <| Runs.lstoreN (P' := [vr a, vl ((l1 * (1000003 : Int64)) + r15.toInt64), v2, vi i3, vn, vn, vn]) d2_189 (by decide) rfl <| Runs.iinc (P' := [vr a, vl ((l1 * (1000003 : Int64)) + r15.toInt64), v2, vi (i3 + (1 : Int32)), vn, vn, vn]) d2_190 ci_1 rfl (by decide) rfl <| Runs.goto (pc' := 166) d2_193 (by decide) <| hk166 ((l1 * (1000003 : Int64)) + r15.toInt64) (i3 + (1 : Int32)) hf
  · refine Runs.icY (pc' := 196) d2_169 (flt hc14).2.1 (by decide) <| ?_
    exact Runs.iconst d2_196 ci_0 <| Runs.istoreN (P' := [vr a, vl l1, v2, vi (0 : Int32), vn, vn, vn]) d2_197 (by decide) rfl <| L_fp_l198_p NF l1 (0 : Int32) hf
theorem L_fp_l166_p {C : Ctx} {top : Nat} {a : Nat} {H : List (Nat × Nat × Rec)} {ob : Rec} {res : Int64} {NF : Nat} (n : Nat) (l1 : Int64) (i3 : Int32) (hf : L_fp_l166 NF ob n l1 i3 = some res) : Runs C B2 0 0 166 [vr a, vl l1, v2, vi i3, vn, vn, vn] [] (top, (a, 9, ob) :: H) (Ans (some (.long res)) (top, (a, 9, ob) :: H)) := by
  induction n generalizing l1 i3 with
  | zero => cases (show (none : Option (Int64)) = some res from hf)
  | succ n ih => exact L_fp_w166_p (L_fp_l166 NF ob n) (fun l1 i3 h => ih _ _ h) l1 i3 hf
def L_fp_w132 (NF : Nat) (ob : Rec) (k132 : Int64 → Int32 → Option (Int64)) (l1 : Int64) (i3 : Int32) : Option (Int64) :=
  if i3 < (39 : Int32) then
    (X_deliveredAt ob (i3 / (13 : Int32)) (i3 % (13 : Int32))).bind fun r12 =>
    k132 ((l1 * (1000003 : Int64)) + r12.toInt64) (i3 + (1 : Int32))
  else
    L_fp_l166 NF ob NF l1 (0 : Int32)
def L_fp_l132 (NF : Nat) (ob : Rec) : Nat → Int64 → Int32 → Option (Int64)
  | 0, _, _ => none
  | n + 1, l1, i3 => L_fp_w132 NF ob (L_fp_l132 NF ob n) l1 i3
set_option maxRecDepth 65536 in
set_option maxHeartbeats 4000000 in
theorem L_fp_w132_p {C : Ctx} {top : Nat} {a : Nat} {H : List (Nat × Nat × Rec)} {ob : Rec} {res : Int64} {NF : Nat} (k132 : Int64 → Int32 → Option (Int64)) (hk132 : ∀ (l1 : Int64) (i3 : Int32), k132 l1 i3 = some res → Runs C B2 0 0 132 [vr a, vl l1, v2, vi i3, vn, vn, vn] [] (top, (a, 9, ob) :: H) (Ans (some (.long res)) (top, (a, 9, ob) :: H))) (l1 : Int64) (i3 : Int32) (hf : L_fp_w132 NF ob k132 l1 i3 = some res) : Runs C B2 0 0 132 [vr a, vl l1, v2, vi i3, vn, vn, vn] [] (top, (a, 9, ob) :: H) (Ans (some (.long res)) (top, (a, 9, ob) :: H)) := by
  delta L_fp_w132 at hf
  refine Runs.iloadN d2_132 rfl <| Runs.bipush d2_133 cb_39 <| ?_
  refine ite_el hf (fun hc11 hf => ?_) (fun hc11 hf => ?_)
  · refine Runs.icN d2_135 (tlt hc11).2.1 <| ?_
    refine Runs.lloadN d2_138 rfl <| Runs.ldc2 d2_139 w38 <| Runs.lmul d2_142 <| Runs.aloadN d2_143 rfl <| Runs.iloadN d2_144 rfl <| Runs.bipush d2_145 cb_13 <| Runs.idiv d2_147 (by decide) <| Runs.iloadN d2_148 rfl <| Runs.bipush d2_149 cb_13 <| Runs.irem d2_151 (by decide) <| ?_
    refine bind_el hf fun r12 hg13 hf => ?_
    exact Runs.callV (N := B10) (W := 2) (as := [.int (i3 / (13 : Int32)), .int (i3 % (13 : Int32))]) (S' := [.long (l1 * (1000003 : Int64))]) d2_152 w71 w72 w73 w74 cw10 ar10 rk2_10_2 (by decide) rfl rfl (X_deliveredAt_pay hg13) <| ans1 <| Runs.i2l d2_155 <| Runs.ladd d2_156 <| Runs.lstoreN (P' := [vr a, vl ((l1 * (1000003 : Int64)) + r12.toInt64), v2, vi i3, vn, vn, vn]) d2_157 (by decide) rfl <| Runs.iinc (P' := [vr a, vl ((l1 * (1000003 : Int64)) + r12.toInt64), v2, vi (i3 + (1 : Int32)), vn, vn, vn]) d2_158 ci_1 rfl (by decide) rfl <| Runs.goto (pc' := 132) d2_161 (by decide) <| hk132 ((l1 * (1000003 : Int64)) + r12.toInt64) (i3 + (1 : Int32)) hf
  · refine Runs.icY (pc' := 164) d2_135 (flt hc11).2.1 (by decide) <| ?_
    exact Runs.iconst d2_164 ci_0 <| Runs.istoreN (P' := [vr a, vl l1, v2, vi (0 : Int32), vn, vn, vn]) d2_165 (by decide) rfl <| L_fp_l166_p NF l1 (0 : Int32) hf
theorem L_fp_l132_p {C : Ctx} {top : Nat} {a : Nat} {H : List (Nat × Nat × Rec)} {ob : Rec} {res : Int64} {NF : Nat} (n : Nat) (l1 : Int64) (i3 : Int32) (hf : L_fp_l132 NF ob n l1 i3 = some res) : Runs C B2 0 0 132 [vr a, vl l1, v2, vi i3, vn, vn, vn] [] (top, (a, 9, ob) :: H) (Ans (some (.long res)) (top, (a, 9, ob) :: H)) := by
  induction n generalizing l1 i3 with
  | zero => cases (show (none : Option (Int64)) = some res from hf)
  | succ n ih => exact L_fp_w132_p (L_fp_l132 NF ob n) (fun l1 i3 h => ih _ _ h) l1 i3 hf
def L_fp_w94 (NF : Nat) (ob : Rec) (k94 : Int64 → Int32 → Option (Int64)) (l1 : Int64) (i3 : Int32) : Option (Int64) :=
  if i3 < (27 : Int32) then
    (X_known ob (i3 / (9 : Int32)) ((i3 / (3 : Int32)) % (3 : Int32)) (i3 % (3 : Int32))).bind fun r9 =>
    k94 ((l1 * (1000003 : Int64)) + r9.toInt64) (i3 + (1 : Int32))
  else
    L_fp_l132 NF ob NF l1 (0 : Int32)
def L_fp_l94 (NF : Nat) (ob : Rec) : Nat → Int64 → Int32 → Option (Int64)
  | 0, _, _ => none
  | n + 1, l1, i3 => L_fp_w94 NF ob (L_fp_l94 NF ob n) l1 i3
set_option maxRecDepth 65536 in
set_option maxHeartbeats 4000000 in
theorem L_fp_w94_p {C : Ctx} {top : Nat} {a : Nat} {H : List (Nat × Nat × Rec)} {ob : Rec} {res : Int64} {NF : Nat} (k94 : Int64 → Int32 → Option (Int64)) (hk94 : ∀ (l1 : Int64) (i3 : Int32), k94 l1 i3 = some res → Runs C B2 0 0 94 [vr a, vl l1, v2, vi i3, vn, vn, vn] [] (top, (a, 9, ob) :: H) (Ans (some (.long res)) (top, (a, 9, ob) :: H))) (l1 : Int64) (i3 : Int32) (hf : L_fp_w94 NF ob k94 l1 i3 = some res) : Runs C B2 0 0 94 [vr a, vl l1, v2, vi i3, vn, vn, vn] [] (top, (a, 9, ob) :: H) (Ans (some (.long res)) (top, (a, 9, ob) :: H)) := by
  delta L_fp_w94 at hf
  refine Runs.iloadN d2_94 rfl <| Runs.bipush d2_95 cb_27 <| ?_
  refine ite_el hf (fun hc8 hf => ?_) (fun hc8 hf => ?_)
  · refine Runs.icN d2_97 (tlt hc8).2.1 <| ?_
    refine Runs.lloadN d2_100 rfl <| Runs.ldc2 d2_101 w38 <| Runs.lmul d2_104 <| Runs.aloadN d2_105 rfl <| Runs.iloadN d2_106 rfl <| Runs.bipush d2_107 cb_9 <| Runs.idiv d2_109 (by decide) <| Runs.iloadN d2_110 rfl <| Runs.iconst d2_111 ci_3 <| Runs.idiv d2_112 (by decide) <| Runs.iconst d2_113 ci_3 <| Runs.irem d2_114 (by decide) <| ?_
    refine Runs.iloadN d2_115 rfl <| Runs.iconst d2_116 ci_3 <| Runs.irem d2_117 (by decide) <| ?_
    refine bind_el hf fun r9 hg10 hf => ?_
    exact Runs.callV (N := B8) (W := 2) (as := [.int (i3 / (9 : Int32)), .int ((i3 / (3 : Int32)) % (3 : Int32)), .int (i3 % (3 : Int32))]) (S' := [.long (l1 * (1000003 : Int64))]) d2_118 w62 w63 w64 w65 cw8 ar8 rk2_8_2 (by decide) rfl rfl (X_known_pay hg10) <| ans1 <| Runs.i2l d2_121 <| Runs.ladd d2_122 <| Runs.lstoreN (P' := [vr a, vl ((l1 * (1000003 : Int64)) + r9.toInt64), v2, vi i3, vn, vn, vn]) d2_123 (by decide) rfl <| Runs.iinc (P' := [vr a, vl ((l1 * (1000003 : Int64)) + r9.toInt64), v2, vi (i3 + (1 : Int32)), vn, vn, vn]) d2_124 ci_1 rfl (by decide) rfl <| Runs.goto (pc' := 94) d2_127 (by decide) <| hk94 ((l1 * (1000003 : Int64)) + r9.toInt64) (i3 + (1 : Int32)) hf
  · refine Runs.icY (pc' := 130) d2_97 (flt hc8).2.1 (by decide) <| ?_
    exact Runs.iconst d2_130 ci_0 <| Runs.istoreN (P' := [vr a, vl l1, v2, vi (0 : Int32), vn, vn, vn]) d2_131 (by decide) rfl <| L_fp_l132_p NF l1 (0 : Int32) hf
theorem L_fp_l94_p {C : Ctx} {top : Nat} {a : Nat} {H : List (Nat × Nat × Rec)} {ob : Rec} {res : Int64} {NF : Nat} (n : Nat) (l1 : Int64) (i3 : Int32) (hf : L_fp_l94 NF ob n l1 i3 = some res) : Runs C B2 0 0 94 [vr a, vl l1, v2, vi i3, vn, vn, vn] [] (top, (a, 9, ob) :: H) (Ans (some (.long res)) (top, (a, 9, ob) :: H)) := by
  induction n generalizing l1 i3 with
  | zero => cases (show (none : Option (Int64)) = some res from hf)
  | succ n ih => exact L_fp_w94_p (L_fp_l94 NF ob n) (fun l1 i3 h => ih _ _ h) l1 i3 hf
def L_fp_w6 (NF : Nat) (ob : Rec) (k6 : Int64 → Int32 → Option (Int64)) (l1 : Int64) (i3 : Int32) : Option (Int64) :=
  if i3 < (36 : Int32) then
    (X_stamp ob (i3 / (12 : Int32)) (((i3 / (3 : Int32)) % (4 : Int32)) + (1 : Int32)) (i3 % (3 : Int32))).bind fun r2 =>
    (X_copies ob (i3 / (12 : Int32)) (((i3 / (3 : Int32)) % (4 : Int32)) + (1 : Int32)) (i3 % (3 : Int32))).bind fun r4 =>
    (X_state ob (i3 % (3 : Int32)) (i3 / (12 : Int32)) (((i3 / (3 : Int32)) % (4 : Int32)) + (1 : Int32))).bind fun r6 =>
    k6 ((((((l1 * (1000003 : Int64)) + r2.toInt64) * (1000003 : Int64)) + r4.toInt64) * (1000003 : Int64)) + r6.toInt64) (i3 + (1 : Int32))
  else
    L_fp_l94 NF ob NF l1 (0 : Int32)
def L_fp_l6 (NF : Nat) (ob : Rec) : Nat → Int64 → Int32 → Option (Int64)
  | 0, _, _ => none
  | n + 1, l1, i3 => L_fp_w6 NF ob (L_fp_l6 NF ob n) l1 i3
set_option maxRecDepth 65536 in
set_option maxHeartbeats 4000000 in
theorem L_fp_w6_p {C : Ctx} {top : Nat} {a : Nat} {H : List (Nat × Nat × Rec)} {ob : Rec} {res : Int64} {NF : Nat} (k6 : Int64 → Int32 → Option (Int64)) (hk6 : ∀ (l1 : Int64) (i3 : Int32), k6 l1 i3 = some res → Runs C B2 0 0 6 [vr a, vl l1, v2, vi i3, vn, vn, vn] [] (top, (a, 9, ob) :: H) (Ans (some (.long res)) (top, (a, 9, ob) :: H))) (l1 : Int64) (i3 : Int32) (hf : L_fp_w6 NF ob k6 l1 i3 = some res) : Runs C B2 0 0 6 [vr a, vl l1, v2, vi i3, vn, vn, vn] [] (top, (a, 9, ob) :: H) (Ans (some (.long res)) (top, (a, 9, ob) :: H)) := by
  delta L_fp_w6 at hf
  refine Runs.iloadN d2_6 rfl <| Runs.bipush d2_7 cb_36 <| ?_
  refine ite_el hf (fun hc1 hf => ?_) (fun hc1 hf => ?_)
  · refine Runs.icN d2_9 (tlt hc1).2.1 <| ?_
    refine Runs.iloadN d2_12 rfl <| Runs.bipush d2_13 cb_12 <| Runs.idiv d2_15 (by decide) <| Runs.istore (P' := [vr a, vl l1, v2, vi i3, vi (i3 / (12 : Int32)), vn, vn]) d2_16 (by decide) rfl <| Runs.iloadN d2_18 rfl <| Runs.iconst d2_19 ci_3 <| Runs.idiv d2_20 (by decide) <| Runs.iconst d2_21 ci_4 <| Runs.irem d2_22 (by decide) <| Runs.iconst d2_23 ci_1 <| Runs.iadd d2_24 <| Runs.istore (P' := [vr a, vl l1, v2, vi i3, vi (i3 / (12 : Int32)), vi (((i3 / (3 : Int32)) % (4 : Int32)) + (1 : Int32)), vn]) d2_25 (by decide) rfl <| ?_
    refine Runs.iloadN d2_27 rfl <| Runs.iconst d2_28 ci_3 <| Runs.irem d2_29 (by decide) <| Runs.istore (P' := [vr a, vl l1, v2, vi i3, vi (i3 / (12 : Int32)), vi (((i3 / (3 : Int32)) % (4 : Int32)) + (1 : Int32)), vi (i3 % (3 : Int32))]) d2_30 (by decide) rfl <| Runs.lloadN d2_32 rfl <| Runs.ldc2 d2_33 w38 <| Runs.lmul d2_36 <| Runs.aloadN d2_37 rfl <| Runs.iload d2_38 rfl <| Runs.iload d2_40 rfl <| Runs.iload d2_42 rfl <| ?_
    refine bind_el hf fun r2 hg3 hf => ?_
    refine Runs.callV (N := B3) (W := 2) (as := [.int (i3 / (12 : Int32)), .int (((i3 / (3 : Int32)) % (4 : Int32)) + (1 : Int32)), .int (i3 % (3 : Int32))]) (S' := [.long (l1 * (1000003 : Int64))]) d2_44 w39 w40 w41 w42 cw3 ar3 rk2_3_2 (by decide) rfl rfl (X_stamp_pay hg3) <| ans1 <| Runs.i2l d2_47 <| Runs.ladd d2_48 <| Runs.lstoreN (P' := [vr a, vl ((l1 * (1000003 : Int64)) + r2.toInt64), v2, vi i3, vi (i3 / (12 : Int32)), vi (((i3 / (3 : Int32)) % (4 : Int32)) + (1 : Int32)), vi (i3 % (3 : Int32))]) d2_49 (by decide) rfl <| Runs.lloadN d2_50 rfl <| Runs.ldc2 d2_51 w38 <| Runs.lmul d2_54 <| Runs.aloadN d2_55 rfl <| Runs.iload d2_56 rfl <| Runs.iload d2_58 rfl <| Runs.iload d2_60 rfl <| ?_
    refine bind_el hf fun r4 hg5 hf => ?_
    refine Runs.callV (N := B5) (W := 2) (as := [.int (i3 / (12 : Int32)), .int (((i3 / (3 : Int32)) % (4 : Int32)) + (1 : Int32)), .int (i3 % (3 : Int32))]) (S' := [.long (((l1 * (1000003 : Int64)) + r2.toInt64) * (1000003 : Int64))]) d2_62 w48 w49 w50 w51 cw5 ar5 rk2_5_2 (by decide) rfl rfl (X_copies_pay hg5) <| ans1 <| Runs.i2l d2_65 <| Runs.ladd d2_66 <| Runs.lstoreN (P' := [vr a, vl ((((l1 * (1000003 : Int64)) + r2.toInt64) * (1000003 : Int64)) + r4.toInt64), v2, vi i3, vi (i3 / (12 : Int32)), vi (((i3 / (3 : Int32)) % (4 : Int32)) + (1 : Int32)), vi (i3 % (3 : Int32))]) d2_67 (by decide) rfl <| Runs.lloadN d2_68 rfl <| Runs.ldc2 d2_69 w38 <| Runs.lmul d2_72 <| Runs.aloadN d2_73 rfl <| Runs.iload d2_74 rfl <| Runs.iload d2_76 rfl <| Runs.iload d2_78 rfl <| ?_
    refine bind_el hf fun r6 hg7 hf => ?_
    exact Runs.callV (N := B6) (W := 2) (as := [.int (i3 % (3 : Int32)), .int (i3 / (12 : Int32)), .int (((i3 / (3 : Int32)) % (4 : Int32)) + (1 : Int32))]) (S' := [.long (((((l1 * (1000003 : Int64)) + r2.toInt64) * (1000003 : Int64)) + r4.toInt64) * (1000003 : Int64))]) d2_80 w53 w54 w55 w56 cw6 ar6 rk2_6_2 (by decide) rfl rfl (X_state_pay hg7) <| ans1 <| Runs.i2l d2_83 <| Runs.ladd d2_84 <| Runs.lstoreN (P' := [vr a, vl ((((((l1 * (1000003 : Int64)) + r2.toInt64) * (1000003 : Int64)) + r4.toInt64) * (1000003 : Int64)) + r6.toInt64), v2, vi i3, vi (i3 / (12 : Int32)), vi (((i3 / (3 : Int32)) % (4 : Int32)) + (1 : Int32)), vi (i3 % (3 : Int32))]) d2_85 (by decide) rfl <| Runs.iinc (P' := [vr a, vl ((((((l1 * (1000003 : Int64)) + r2.toInt64) * (1000003 : Int64)) + r4.toInt64) * (1000003 : Int64)) + r6.toInt64), v2, vi (i3 + (1 : Int32)), vi (i3 / (12 : Int32)), vi (((i3 / (3 : Int32)) % (4 : Int32)) + (1 : Int32)), vi (i3 % (3 : Int32))]) d2_86 ci_1 rfl (by decide) rfl <| Runs.goto (pc' := 6) d2_89 (by decide) <| Runs.forget [true, true, true, true, false, false, false] rfl <| hk6 ((((((l1 * (1000003 : Int64)) + r2.toInt64) * (1000003 : Int64)) + r4.toInt64) * (1000003 : Int64)) + r6.toInt64) (i3 + (1 : Int32)) hf
  · refine Runs.icY (pc' := 92) d2_9 (flt hc1).2.1 (by decide) <| ?_
    exact Runs.iconst d2_92 ci_0 <| Runs.istoreN (P' := [vr a, vl l1, v2, vi (0 : Int32), vn, vn, vn]) d2_93 (by decide) rfl <| L_fp_l94_p NF l1 (0 : Int32) hf
theorem L_fp_l6_p {C : Ctx} {top : Nat} {a : Nat} {H : List (Nat × Nat × Rec)} {ob : Rec} {res : Int64} {NF : Nat} (n : Nat) (l1 : Int64) (i3 : Int32) (hf : L_fp_l6 NF ob n l1 i3 = some res) : Runs C B2 0 0 6 [vr a, vl l1, v2, vi i3, vn, vn, vn] [] (top, (a, 9, ob) :: H) (Ans (some (.long res)) (top, (a, 9, ob) :: H)) := by
  induction n generalizing l1 i3 with
  | zero => cases (show (none : Option (Int64)) = some res from hf)
  | succ n ih => exact L_fp_w6_p (L_fp_l6 NF ob n) (fun l1 i3 h => ih _ _ h) l1 i3 hf
def L_fp (NF : Nat) (ob : Rec) : Option (Int64) :=
  L_fp_l6 NF ob NF (17 : Int64) (0 : Int32)
set_option maxRecDepth 65536 in
set_option maxHeartbeats 4000000 in
theorem L_fp_p {C : Ctx} {top : Nat} {a : Nat} {H : List (Nat × Nat × Rec)} {ob : Rec} {res : Int64} {NF : Nat} (hf : L_fp NF ob = some res) : Runs C B2 0 0 0 [vr a, vn, vn, vn, vn, vn, vn] [] (top, (a, 9, ob) :: H) (Ans (some (.long res)) (top, (a, 9, ob) :: H)) := by
  delta L_fp at hf
  exact Runs.ldc2 d2_0 w37 <| Runs.lstoreN (P' := [vr a, vl (17 : Int64), v2, vn, vn, vn, vn]) d2_3 (by decide) rfl <| Runs.iconst d2_4 ci_0 <| Runs.istoreN (P' := [vr a, vl (17 : Int64), v2, vi (0 : Int32), vn, vn, vn]) d2_5 (by decide) rfl <| L_fp_l6_p NF (17 : Int64) (0 : Int32) hf
theorem L_fp_pay {C : Ctx} {top : Nat} {a : Nat} {H : List (Nat × Nat × Rec)} {ob : Rec} {res : Int64} {NF : Nat} (hf : L_fp NF ob = some res) : Pays C B2 [.ref a] (top, (a, 9, ob) :: H) (Ans (some (.long res)) (top, (a, 9, ob) :: H)) :=
  Pays.of pnL (Nat.le_of_ble_eq_true rfl) (P := [vr a, vn, vn, vn, vn, vn, vn]) 6 rfl (L_fp_p hf)
def X_deliverAt_b89 (ob : Rec) (i1 : Int32) (i2 : Int32) : Option (Rec) :=
  (X_knownIndex ob i1 i1 i2).bind fun r1 =>
  chk (64 : Int32) ((i1 * (8 : Int32)) + i2) <|
  chk (512 : Int32) r1 <|
  some (sA ob 6 r1 (gA ob 2 ((i1 * (8 : Int32)) + i2)))
set_option maxRecDepth 65536 in
set_option maxHeartbeats 4000000 in
theorem X_deliverAt_b89_p {C : Ctx} {top : Nat} {a : Nat} {H : List (Nat × Nat × Rec)} {res : Rec} (ob : Rec) (i1 : Int32) (i2 : Int32) (hf : X_deliverAt_b89 ob i1 i2 = some res) : Runs C B16 0 0 89 [vr a, vi i1, vi i2, vn, vn, vn, vn] [] (top, (a, 9, ob) :: H) (Ans none (top, (a, 9, res) :: H)) := by
  delta X_deliverAt_b89 at hf
  refine Runs.aloadN d16_89 rfl <| Runs.iloadN d16_90 rfl <| Runs.iloadN d16_91 rfl <| Runs.iloadN d16_92 rfl <| ?_
  refine bind_el hf fun r1 hg2 hf => ?_
  refine Runs.callP (N := B9) (W := 0) (as := [.int i1, .int i1, .int i2]) (S' := []) d16_93 w67 w68 w69 rfl cw9 ar9 rk16_9_0 (by decide) rfl rfl (X_knownIndex_pay hg2) <| ans1 <| Runs.istore (P' := [vr a, vi i1, vi i2, vn, vn, vn, vi r1]) d16_96 (by decide) rfl <| Runs.aloadN d16_98 rfl <| Runs.getA d16_99 fA_6 w23 (by decide) <| Runs.iload d16_102 rfl <| Runs.aloadN d16_104 rfl <| Runs.getA d16_105 fA_2 w15 (by decide) <| Runs.iloadN d16_108 rfl <| Runs.bipush d16_109 cb_8 <| Runs.imul d16_111 <| Runs.iloadN d16_112 rfl <| Runs.iadd d16_113 <| ?_
  refine chk_el hf fun hi3 hf => ?_
  refine Runs.ialoadA d16_114 fA_2 (by decide) hi3 <| ?_
  refine chk_el hf fun hi4 hf => ?_
  obtain rfl := Option.some.inj hf
  exact Runs.iastoreA d16_115 fA_6 (by decide) hi4 <| Runs.retV d16_116 rfl ⟨by decide, by decide⟩ ⟨rfl, rfl⟩
def X_deliverAt (ob : Rec) (i1 : Int32) (i2 : Int32) (i3 : Int32) : Option (Rec) :=
  (X_stateIndex ob i1 i2 i3).bind fun r5 =>
  chk (512 : Int32) r5 <|
  chk (64 : Int32) ((i1 * (8 : Int32)) + i2) <|
  chk (64 : Int32) ((i1 * (8 : Int32)) + i2) <|
  chk (8 : Int32) i1 <|
  if (gA ob 8 i1) < (0 : Int32) then
    X_deliverAt_b89 (sA (sA ob 3 r5 (2 : Int32)) 2 ((i1 * (8 : Int32)) + i2) ((gA ob 2 ((i1 * (8 : Int32)) + i2)) + (1 : Int32))) i1 i2
  else
    if (gA ob 8 i1) < (64 : Int32) then
      chk (512 : Int32) ((i1 * (64 : Int32)) + (gA ob 8 i1)) <|
      chk (8 : Int32) i1 <|
      X_deliverAt_b89 (sA (sA (sA (sA ob 3 r5 (2 : Int32)) 2 ((i1 * (8 : Int32)) + i2) ((gA ob 2 ((i1 * (8 : Int32)) + i2)) + (1 : Int32))) 7 ((i1 * (64 : Int32)) + (gA ob 8 i1)) ((i2 * (16 : Int32)) + i3)) 8 i1 ((gA ob 8 i1) + (1 : Int32))) i1 i2
    else
      X_deliverAt_b89 (sA (sA ob 3 r5 (2 : Int32)) 2 ((i1 * (8 : Int32)) + i2) ((gA ob 2 ((i1 * (8 : Int32)) + i2)) + (1 : Int32))) i1 i2
set_option maxRecDepth 65536 in
set_option maxHeartbeats 4000000 in
theorem X_deliverAt_p {C : Ctx} {top : Nat} {a : Nat} {H : List (Nat × Nat × Rec)} {res : Rec} (ob : Rec) (i1 : Int32) (i2 : Int32) (i3 : Int32) (hf : X_deliverAt ob i1 i2 i3 = some res) : Runs C B16 0 0 0 [vr a, vi i1, vi i2, vi i3, vn, vn, vn] [] (top, (a, 9, ob) :: H) (Ans none (top, (a, 9, res) :: H)) := by
  delta X_deliverAt at hf
  refine Runs.aloadN d16_0 rfl <| Runs.iloadN d16_1 rfl <| Runs.iloadN d16_2 rfl <| Runs.iloadN d16_3 rfl <| ?_
  refine bind_el hf fun r5 hg6 hf => ?_
  refine Runs.callP (N := B17) (W := 0) (as := [.int i1, .int i2, .int i3]) (S' := []) d16_4 w105 w106 w107 rfl cw17 ar17 rk16_17_0 (by decide) rfl rfl (X_stateIndex_pay hg6) <| ans1 <| Runs.istore (P' := [vr a, vi i1, vi i2, vi i3, vi r5, vn, vn]) d16_7 (by decide) rfl <| Runs.aloadN d16_9 rfl <| Runs.getA d16_10 fA_3 w17 (by decide) <| Runs.iload d16_13 rfl <| Runs.iconst d16_15 ci_2 <| ?_
  refine chk_el hf fun hi7 hf => ?_
  refine Runs.iastoreA d16_16 fA_3 (by decide) hi7 <| Runs.aloadN d16_17 rfl <| Runs.getA d16_18 fA_2 w15 (by decide) <| Runs.iloadN d16_21 rfl <| Runs.bipush d16_22 cb_8 <| Runs.imul d16_24 <| Runs.iloadN d16_25 rfl <| Runs.iadd d16_26 <| Runs.aloadN d16_27 rfl <| Runs.getA d16_28 fA_2 w15 (by decide) <| Runs.iloadN d16_31 rfl <| Runs.bipush d16_32 cb_8 <| ?_
  refine Runs.imul d16_34 <| Runs.iloadN d16_35 rfl <| Runs.iadd d16_36 <| ?_
  refine chk_el hf fun hi8 hf => ?_
  refine Runs.ialoadA d16_37 fA_2 (by decide) hi8 <| Runs.iconst d16_38 ci_1 <| Runs.iadd d16_39 <| ?_
  refine chk_el hf fun hi9 hf => ?_
  refine Runs.iastoreA d16_40 fA_2 (by decide) hi9 <| Runs.aloadN d16_41 rfl <| Runs.getA d16_42 fA_8 w27 (by decide) <| Runs.iloadN d16_45 rfl <| ?_
  refine chk_el hf fun hi10 hf => ?_
  refine Runs.ialoadA d16_46 fA_8 (by decide) hi10 <| Runs.istore (P' := [vr a, vi i1, vi i2, vi i3, vi r5, vi (gA ob 8 i1), vn]) d16_47 (by decide) rfl <| Runs.iload d16_49 rfl <| ?_
  refine ite_el hf (fun hc11 hf => ?_) (fun hc11 hf => ?_)
  · exact Runs.ifY (pc' := 89) d16_51 (tlt hc11).1 (by decide) <| Runs.forget [true, true, true, false, false, false, false] rfl <| X_deliverAt_b89_p (sA (sA ob 3 r5 (2 : Int32)) 2 ((i1 * (8 : Int32)) + i2) ((gA ob 2 ((i1 * (8 : Int32)) + i2)) + (1 : Int32))) i1 i2 hf
  · refine Runs.ifN d16_51 (flt hc11).1 <| ?_
    refine Runs.iload d16_54 rfl <| Runs.bipush d16_56 cb_64 <| ?_
    refine ite_el hf (fun hc12 hf => ?_) (fun hc12 hf => ?_)
    · refine Runs.icN d16_58 (tlt hc12).2.1 <| ?_
      refine Runs.aloadN d16_61 rfl <| Runs.getA d16_62 fA_7 w25 (by decide) <| Runs.iloadN d16_65 rfl <| Runs.bipush d16_66 cb_64 <| Runs.imul d16_68 <| Runs.iload d16_69 rfl <| Runs.iadd d16_71 <| Runs.iloadN d16_72 rfl <| Runs.bipush d16_73 cb_16 <| Runs.imul d16_75 <| Runs.iloadN d16_76 rfl <| Runs.iadd d16_77 <| ?_
      refine chk_el hf fun hi13 hf => ?_
      refine Runs.iastoreA d16_78 fA_7 (by decide) hi13 <| Runs.aloadN d16_79 rfl <| Runs.getA d16_80 fA_8 w27 (by decide) <| Runs.iloadN d16_83 rfl <| Runs.iload d16_84 rfl <| Runs.iconst d16_86 ci_1 <| Runs.iadd d16_87 <| ?_
      refine chk_el hf fun hi14 hf => ?_
      exact Runs.iastoreA d16_88 fA_8 (by decide) hi14 <| Runs.forget [true, true, true, false, false, false, false] rfl <| X_deliverAt_b89_p (sA (sA (sA (sA ob 3 r5 (2 : Int32)) 2 ((i1 * (8 : Int32)) + i2) ((gA ob 2 ((i1 * (8 : Int32)) + i2)) + (1 : Int32))) 7 ((i1 * (64 : Int32)) + (gA ob 8 i1)) ((i2 * (16 : Int32)) + i3)) 8 i1 ((gA ob 8 i1) + (1 : Int32))) i1 i2 hf
    · exact Runs.icY (pc' := 89) d16_58 (flt hc12).2.1 (by decide) <| Runs.forget [true, true, true, false, false, false, false] rfl <| X_deliverAt_b89_p (sA (sA ob 3 r5 (2 : Int32)) 2 ((i1 * (8 : Int32)) + i2) ((gA ob 2 ((i1 * (8 : Int32)) + i2)) + (1 : Int32))) i1 i2 hf
theorem X_deliverAt_pay {C : Ctx} {top : Nat} {a : Nat} {H : List (Nat × Nat × Rec)} {res : Rec} {ob : Rec} {i1 : Int32} {i2 : Int32} {i3 : Int32} (hf : X_deliverAt ob i1 i2 i3 = some res) : Pays C B16 [.ref a, .int i1, .int i2, .int i3] (top, (a, 9, ob) :: H) (Ans none (top, (a, 9, res) :: H)) :=
  Pays.of pnK (Nat.le_of_ble_eq_true rfl) (P := [vr a, vi i1, vi i2, vi i3, vn, vn, vn]) 3 rfl (X_deliverAt_p ob i1 i2 i3 hf)
def X_broadcast_w125 (NF : Nat) (k125 : Rec → Int32 → Int32 → Int32 → Int32 → Option (Int32 × Rec)) (ob : Rec) (i1 : Int32) (i2 : Int32) (i3 : Int32) (i4 : Int32) : Option (Int32 × Rec) :=
  if i4 < (gI ob 0) then
    if i4 = i1 then
      chk (512 : Int32) ((i3 * (8 : Int32)) + i4) <|
      k125 (sA ob 5 ((i3 * (8 : Int32)) + i4) (0 : Int32)) i1 i2 i3 (i4 + (1 : Int32))
    else
      chk (512 : Int32) ((i3 * (8 : Int32)) + i4) <|
      k125 (sA ob 5 ((i3 * (8 : Int32)) + i4) (1 : Int32)) i1 i2 i3 (i4 + (1 : Int32))
  else
    some (i2, ob)
def X_broadcast_l125 (NF : Nat) : Nat → Rec → Int32 → Int32 → Int32 → Int32 → Option (Int32 × Rec)
  | 0, _, _, _, _, _ => none
  | n + 1, ob, i1, i2, i3, i4 => X_broadcast_w125 NF (X_broadcast_l125 NF n) ob i1 i2 i3 i4
set_option maxRecDepth 65536 in
set_option maxHeartbeats 4000000 in
theorem X_broadcast_w125_p {C : Ctx} {top : Nat} {a : Nat} {H : List (Nat × Nat × Rec)} {res : Int32 × Rec} {NF : Nat} (k125 : Rec → Int32 → Int32 → Int32 → Int32 → Option (Int32 × Rec)) (hk125 : ∀ (ob : Rec) (i1 : Int32) (i2 : Int32) (i3 : Int32) (i4 : Int32), k125 ob i1 i2 i3 i4 = some res → Runs C B14 0 0 125 [vr a, vi i1, vi i2, vi i3, vi i4] [] (top, (a, 9, ob) :: H) (Ans (some (.int res.1)) (top, (a, 9, res.2) :: H))) (ob : Rec) (i1 : Int32) (i2 : Int32) (i3 : Int32) (i4 : Int32) (hf : X_broadcast_w125 NF k125 ob i1 i2 i3 i4 = some res) : Runs C B14 0 0 125 [vr a, vi i1, vi i2, vi i3, vi i4] [] (top, (a, 9, ob) :: H) (Ans (some (.int res.1)) (top, (a, 9, res.2) :: H)) := by
  delta X_broadcast_w125 at hf
  refine Runs.iload d14_125 rfl <| Runs.aloadN d14_127 rfl <| Runs.getI d14_128 w29 fS_0 <| ?_
  refine ite_el hf (fun hc7 hf => ?_) (fun hc7 hf => ?_)
  · refine Runs.icN d14_131 (tlt hc7).2.1 <| ?_
    refine Runs.aloadN d14_134 rfl <| Runs.getA d14_135 fA_5 w21 (by decide) <| Runs.iloadN d14_138 rfl <| Runs.bipush d14_139 cb_8 <| Runs.imul d14_141 <| Runs.iload d14_142 rfl <| Runs.iadd d14_144 <| Runs.iload d14_145 rfl <| Runs.iloadN d14_147 rfl <| ?_
    refine ite_el hf (fun hc8 hf => ?_) (fun hc8 hf => ?_)
    · refine Runs.icN d14_148 (teq hc8).2 <| ?_
      refine Runs.iconst d14_151 ci_0 <| Runs.goto (pc' := 156) d14_152 (by decide) <| ?_
      refine chk_el hf fun hi9 hf => ?_
      exact Runs.iastoreA d14_156 fA_5 (by decide) hi9 <| Runs.iinc (P' := [vr a, vi i1, vi i2, vi i3, vi (i4 + (1 : Int32))]) d14_157 ci_1 rfl (by decide) rfl <| Runs.goto (pc' := 125) d14_160 (by decide) <| hk125 (sA ob 5 ((i3 * (8 : Int32)) + i4) (0 : Int32)) i1 i2 i3 (i4 + (1 : Int32)) hf
    · refine Runs.icY (pc' := 155) d14_148 (feq hc8).2 (by decide) <| ?_
      refine Runs.iconst d14_155 ci_1 <| ?_
      refine chk_el hf fun hi10 hf => ?_
      exact Runs.iastoreA d14_156 fA_5 (by decide) hi10 <| Runs.iinc (P' := [vr a, vi i1, vi i2, vi i3, vi (i4 + (1 : Int32))]) d14_157 ci_1 rfl (by decide) rfl <| Runs.goto (pc' := 125) d14_160 (by decide) <| hk125 (sA ob 5 ((i3 * (8 : Int32)) + i4) (1 : Int32)) i1 i2 i3 (i4 + (1 : Int32)) hf
  · refine Runs.icY (pc' := 163) d14_131 (flt hc7).2.1 (by decide) <| ?_
    obtain rfl := Option.some.inj hf
    exact Runs.iloadN d14_163 rfl <| Runs.retI d14_164 rfl ⟨by decide, by decide⟩ ⟨rfl, rfl⟩
theorem X_broadcast_l125_p {C : Ctx} {top : Nat} {a : Nat} {H : List (Nat × Nat × Rec)} {res : Int32 × Rec} {NF : Nat} (n : Nat) (ob : Rec) (i1 : Int32) (i2 : Int32) (i3 : Int32) (i4 : Int32) (hf : X_broadcast_l125 NF n ob i1 i2 i3 i4 = some res) : Runs C B14 0 0 125 [vr a, vi i1, vi i2, vi i3, vi i4] [] (top, (a, 9, ob) :: H) (Ans (some (.int res.1)) (top, (a, 9, res.2) :: H)) := by
  induction n generalizing ob i1 i2 i3 i4 with
  | zero => cases (show (none : Option (Int32 × Rec)) = some res from hf)
  | succ n ih => exact X_broadcast_w125_p (X_broadcast_l125 NF n) (fun ob i1 i2 i3 i4 h => ih _ _ _ _ _ h) ob i1 i2 i3 i4 hf
def X_broadcast_w64 (NF : Nat) (k64 : Rec → Int32 → Int32 → Int32 → Int32 → Option (Int32 × Rec)) (ob : Rec) (i1 : Int32) (i2 : Int32) (i3 : Int32) (i4 : Int32) : Option (Int32 × Rec) :=
  if i4 < (gI ob 0) then
    chk (64 : Int32) ((i1 * (8 : Int32)) + i4) <|
    chk (512 : Int32) ((i3 * (8 : Int32)) + i4) <|
    k64 (sA ob 4 ((i3 * (8 : Int32)) + i4) (gA ob 2 ((i1 * (8 : Int32)) + i4))) i1 i2 i3 (i4 + (1 : Int32))
  else
    chk (512 : Int32) ((i3 * (8 : Int32)) + i1) <|
    (X_deliverAt (sA ob 4 ((i3 * (8 : Int32)) + i1) i2) i1 i1 i2).bind fun q5 =>
    X_broadcast_l125 NF NF q5 i1 i2 i3 (0 : Int32)
def X_broadcast_l64 (NF : Nat) : Nat → Rec → Int32 → Int32 → Int32 → Int32 → Option (Int32 × Rec)
  | 0, _, _, _, _, _ => none
  | n + 1, ob, i1, i2, i3, i4 => X_broadcast_w64 NF (X_broadcast_l64 NF n) ob i1 i2 i3 i4
set_option maxRecDepth 65536 in
set_option maxHeartbeats 4000000 in
theorem X_broadcast_w64_p {C : Ctx} {top : Nat} {a : Nat} {H : List (Nat × Nat × Rec)} {res : Int32 × Rec} {NF : Nat} (k64 : Rec → Int32 → Int32 → Int32 → Int32 → Option (Int32 × Rec)) (hk64 : ∀ (ob : Rec) (i1 : Int32) (i2 : Int32) (i3 : Int32) (i4 : Int32), k64 ob i1 i2 i3 i4 = some res → Runs C B14 0 0 64 [vr a, vi i1, vi i2, vi i3, vi i4] [] (top, (a, 9, ob) :: H) (Ans (some (.int res.1)) (top, (a, 9, res.2) :: H))) (ob : Rec) (i1 : Int32) (i2 : Int32) (i3 : Int32) (i4 : Int32) (hf : X_broadcast_w64 NF k64 ob i1 i2 i3 i4 = some res) : Runs C B14 0 0 64 [vr a, vi i1, vi i2, vi i3, vi i4] [] (top, (a, 9, ob) :: H) (Ans (some (.int res.1)) (top, (a, 9, res.2) :: H)) := by
  delta X_broadcast_w64 at hf
  refine Runs.iload d14_64 rfl <| Runs.aloadN d14_66 rfl <| Runs.getI d14_67 w29 fS_0 <| ?_
  refine ite_el hf (fun hc1 hf => ?_) (fun hc1 hf => ?_)
  · refine Runs.icN d14_70 (tlt hc1).2.1 <| ?_
    refine Runs.aloadN d14_73 rfl <| Runs.getA d14_74 fA_4 w19 (by decide) <| Runs.iloadN d14_77 rfl <| Runs.bipush d14_78 cb_8 <| Runs.imul d14_80 <| Runs.iload d14_81 rfl <| Runs.iadd d14_83 <| Runs.aloadN d14_84 rfl <| Runs.getA d14_85 fA_2 w15 (by decide) <| Runs.iloadN d14_88 rfl <| Runs.bipush d14_89 cb_8 <| Runs.imul d14_91 <| ?_
    refine Runs.iload d14_92 rfl <| Runs.iadd d14_94 <| ?_
    refine chk_el hf fun hi2 hf => ?_
    refine Runs.ialoadA d14_95 fA_2 (by decide) hi2 <| ?_
    refine chk_el hf fun hi3 hf => ?_
    exact Runs.iastoreA d14_96 fA_4 (by decide) hi3 <| Runs.iinc (P' := [vr a, vi i1, vi i2, vi i3, vi (i4 + (1 : Int32))]) d14_97 ci_1 rfl (by decide) rfl <| Runs.goto (pc' := 64) d14_100 (by decide) <| hk64 (sA ob 4 ((i3 * (8 : Int32)) + i4) (gA ob 2 ((i1 * (8 : Int32)) + i4))) i1 i2 i3 (i4 + (1 : Int32)) hf
  · refine Runs.icY (pc' := 103) d14_70 (flt hc1).2.1 (by decide) <| ?_
    refine Runs.aloadN d14_103 rfl <| Runs.getA d14_104 fA_4 w19 (by decide) <| Runs.iloadN d14_107 rfl <| Runs.bipush d14_108 cb_8 <| Runs.imul d14_110 <| Runs.iloadN d14_111 rfl <| Runs.iadd d14_112 <| Runs.iloadN d14_113 rfl <| ?_
    refine chk_el hf fun hi4 hf => ?_
    refine Runs.iastoreA d14_114 fA_4 (by decide) hi4 <| Runs.aloadN d14_115 rfl <| Runs.iloadN d14_116 rfl <| Runs.iloadN d14_117 rfl <| Runs.iloadN d14_118 rfl <| ?_
    refine bind_el hf fun q5 hg6 hf => ?_
    exact Runs.callP (N := B16) (W := 0) (as := [.int i1, .int i1, .int i2]) (S' := []) d14_119 w101 w102 w103 rfl cw16 ar16 rk14_16_0 (by decide) rfl rfl (X_deliverAt_pay hg6) <| ans0 <| Runs.iconst d14_122 ci_0 <| Runs.istore (P' := [vr a, vi i1, vi i2, vi i3, vi (0 : Int32)]) d14_123 (by decide) rfl <| X_broadcast_l125_p NF q5 i1 i2 i3 (0 : Int32) hf
theorem X_broadcast_l64_p {C : Ctx} {top : Nat} {a : Nat} {H : List (Nat × Nat × Rec)} {res : Int32 × Rec} {NF : Nat} (n : Nat) (ob : Rec) (i1 : Int32) (i2 : Int32) (i3 : Int32) (i4 : Int32) (hf : X_broadcast_l64 NF n ob i1 i2 i3 i4 = some res) : Runs C B14 0 0 64 [vr a, vi i1, vi i2, vi i3, vi i4] [] (top, (a, 9, ob) :: H) (Ans (some (.int res.1)) (top, (a, 9, res.2) :: H)) := by
  induction n generalizing ob i1 i2 i3 i4 with
  | zero => cases (show (none : Option (Int32 × Rec)) = some res from hf)
  | succ n ih => exact X_broadcast_w64_p (X_broadcast_l64 NF n) (fun ob i1 i2 i3 i4 h => ih _ _ _ _ _ h) ob i1 i2 i3 i4 hf
def X_broadcast (NF : Nat) (ob : Rec) (i1 : Int32) : Option (Int32 × Rec) :=
  (X_validProc ob i1).bind fun r11 =>
  if r11 = (0 : Int32) then
    some ((-1 : Int32), ob)
  else
    chk (8 : Int32) i1 <|
    if (gA ob 1 i1) = (0 : Int32) then
      chk (8 : Int32) i1 <|
      if (gA ob 0 i1) < (gI ob 1) then
        chk (8 : Int32) i1 <|
        chk (8 : Int32) i1 <|
        (X_msgIndex (sA ob 0 i1 ((gA ob 0 i1) + (1 : Int32))) i1 ((gA ob 0 i1) + (1 : Int32))).bind fun r20 =>
        X_broadcast_l64 NF NF (sA ob 0 i1 ((gA ob 0 i1) + (1 : Int32))) i1 ((gA ob 0 i1) + (1 : Int32)) r20 (0 : Int32)
      else
        some ((-3 : Int32), ob)
    else
      some ((-2 : Int32), ob)
set_option maxRecDepth 65536 in
set_option maxHeartbeats 4000000 in
theorem X_broadcast_p {C : Ctx} {top : Nat} {a : Nat} {H : List (Nat × Nat × Rec)} {res : Int32 × Rec} {NF : Nat} (ob : Rec) (i1 : Int32) (hf : X_broadcast NF ob i1 = some res) : Runs C B14 0 0 0 [vr a, vi i1, vn, vn, vn] [] (top, (a, 9, ob) :: H) (Ans (some (.int res.1)) (top, (a, 9, res.2) :: H)) := by
  delta X_broadcast at hf
  refine Runs.aloadN d14_0 rfl <| Runs.iloadN d14_1 rfl <| ?_
  refine bind_el hf fun r11 hg12 hf => ?_
  refine Runs.callP (N := B7) (W := 0) (as := [.int i1]) (S' := []) d14_2 w58 w59 w60 rfl cw7 ar7 rk14_7_0 (by decide) rfl rfl (X_validProc_pay hg12) <| ans1 <| ?_
  refine ite_el hf (fun hc13 hf => ?_) (fun hc13 hf => ?_)
  · refine Runs.ifN d14_5 (teq hc13).2 <| ?_
    obtain rfl := Option.some.inj hf
    exact Runs.iconst d14_8 ci_m1 <| Runs.retI d14_9 rfl ⟨by decide, by decide⟩ ⟨rfl, rfl⟩
  · refine Runs.ifY (pc' := 10) d14_5 (feq hc13).2 (by decide) <| ?_
    refine Runs.aloadN d14_10 rfl <| Runs.getA d14_11 fA_1 w13 (by decide) <| Runs.iloadN d14_14 rfl <| ?_
    refine chk_el hf fun hi14 hf => ?_
    refine Runs.baloadA d14_15 fA_1 (by decide) hi14 <| ?_
    refine ite_el hf (fun hc15 hf => ?_) (fun hc15 hf => ?_)
    · refine Runs.ifY (pc' := 22) d14_16 (teq hc15).1 (by decide) <| ?_
      refine Runs.aloadN d14_22 rfl <| Runs.getA d14_23 fA_0 w10 (by decide) <| Runs.iloadN d14_26 rfl <| ?_
      refine chk_el hf fun hi16 hf => ?_
      refine Runs.ialoadA d14_27 fA_0 (by decide) hi16 <| Runs.aloadN d14_28 rfl <| Runs.getI d14_29 w31 fS_1 <| ?_
      refine ite_el hf (fun hc17 hf => ?_) (fun hc17 hf => ?_)
      · refine Runs.icY (pc' := 38) d14_32 (tlt hc17).1 (by decide) <| ?_
        refine Runs.aloadN d14_38 rfl <| Runs.getA d14_39 fA_0 w10 (by decide) <| Runs.iloadN d14_42 rfl <| ?_
        refine chk_el hf fun hi18 hf => ?_
        refine Runs.ialoadA d14_43 fA_0 (by decide) hi18 <| Runs.iconst d14_44 ci_1 <| Runs.iadd d14_45 <| Runs.istoreN (P' := [vr a, vi i1, vi ((gA ob 0 i1) + (1 : Int32)), vn, vn]) d14_46 (by decide) rfl <| Runs.aloadN d14_47 rfl <| Runs.getA d14_48 fA_0 w10 (by decide) <| Runs.iloadN d14_51 rfl <| Runs.iloadN d14_52 rfl <| ?_
        refine chk_el hf fun hi19 hf => ?_
        refine Runs.iastoreA d14_53 fA_0 (by decide) hi19 <| Runs.aloadN d14_54 rfl <| Runs.iloadN d14_55 rfl <| Runs.iloadN d14_56 rfl <| ?_
        refine bind_el hf fun r20 hg21 hf => ?_
        exact Runs.callP (N := B15) (W := 0) (as := [.int i1, .int ((gA ob 0 i1) + (1 : Int32))]) (S' := []) d14_57 w97 w98 w99 rfl cw15 ar15 rk14_15_0 (by decide) rfl rfl (X_msgIndex_pay hg21) <| ans1 <| Runs.istoreN (P' := [vr a, vi i1, vi ((gA ob 0 i1) + (1 : Int32)), vi r20, vn]) d14_60 (by decide) rfl <| Runs.iconst d14_61 ci_0 <| Runs.istore (P' := [vr a, vi i1, vi ((gA ob 0 i1) + (1 : Int32)), vi r20, vi (0 : Int32)]) d14_62 (by decide) rfl <| X_broadcast_l64_p NF (sA ob 0 i1 ((gA ob 0 i1) + (1 : Int32))) i1 ((gA ob 0 i1) + (1 : Int32)) r20 (0 : Int32) hf
      · refine Runs.icN d14_32 (flt hc17).1 <| ?_
        obtain rfl := Option.some.inj hf
        exact Runs.bipush d14_35 cb_m3 <| Runs.retI d14_37 rfl ⟨by decide, by decide⟩ ⟨rfl, rfl⟩
    · refine Runs.ifN d14_16 (feq hc15).1 <| ?_
      obtain rfl := Option.some.inj hf
      exact Runs.bipush d14_19 cb_m2 <| Runs.retI d14_21 rfl ⟨by decide, by decide⟩ ⟨rfl, rfl⟩
theorem X_broadcast_pay {C : Ctx} {top : Nat} {a : Nat} {H : List (Nat × Nat × Rec)} {res : Int32 × Rec} {NF : Nat} {ob : Rec} {i1 : Int32} (hf : X_broadcast NF ob i1 = some res) : Pays C B14 [.ref a, .int i1] (top, (a, 9, ob) :: H) (Ans (some (.int res.1)) (top, (a, 9, res.2) :: H)) :=
  Pays.of pnK (Nat.le_of_ble_eq_true rfl) (P := [vr a, vi i1, vn, vn, vn]) 3 rfl (X_broadcast_p ob i1 hf)
def X_isDeliverable_w63 (NF : Nat) (ob : Rec) (k63 : Int32 → Int32 → Int32 → Int32 → Option (Int32)) (i1 : Int32) (i2 : Int32) (i5 : Int32) (i6 : Int32) : Option (Int32) :=
  if i6 < (gI ob 0) then
    if i6 = i2 then
      k63 i1 i2 i5 (i6 + (1 : Int32))
    else
      chk (512 : Int32) ((i5 * (8 : Int32)) + i6) <|
      chk (64 : Int32) ((i1 * (8 : Int32)) + i6) <|
      if (gA ob 2 ((i1 * (8 : Int32)) + i6)) < (gA ob 4 ((i5 * (8 : Int32)) + i6)) then
        some (0 : Int32)
      else
        k63 i1 i2 i5 (i6 + (1 : Int32))
  else
    some (1 : Int32)
def X_isDeliverable_l63 (NF : Nat) (ob : Rec) : Nat → Int32 → Int32 → Int32 → Int32 → Option (Int32)
  | 0, _, _, _, _ => none
  | n + 1, i1, i2, i5, i6 => X_isDeliverable_w63 NF ob (X_isDeliverable_l63 NF ob n) i1 i2 i5 i6
set_option maxRecDepth 65536 in
set_option maxHeartbeats 4000000 in
theorem X_isDeliverable_w63_p {C : Ctx} {top : Nat} {a : Nat} {H : List (Nat × Nat × Rec)} {ob : Rec} {res : Int32} {NF : Nat} (k63 : Int32 → Int32 → Int32 → Int32 → Option (Int32)) (hk63 : ∀ (i1 : Int32) (i2 : Int32) (i5 : Int32) (i6 : Int32), k63 i1 i2 i5 i6 = some res → Runs C B29 0 0 63 [vr a, vi i1, vi i2, vn, vn, vi i5, vi i6] [] (top, (a, 9, ob) :: H) (Ans (some (.int res)) (top, (a, 9, ob) :: H))) (i1 : Int32) (i2 : Int32) (i5 : Int32) (i6 : Int32) (hf : X_isDeliverable_w63 NF ob k63 i1 i2 i5 i6 = some res) : Runs C B29 0 0 63 [vr a, vi i1, vi i2, vn, vn, vi i5, vi i6] [] (top, (a, 9, ob) :: H) (Ans (some (.int res)) (top, (a, 9, ob) :: H)) := by
  delta X_isDeliverable_w63 at hf
  refine Runs.iload d29_63 rfl <| Runs.aloadN d29_65 rfl <| Runs.getI d29_66 w29 fS_0 <| ?_
  refine ite_el hf (fun hc1 hf => ?_) (fun hc1 hf => ?_)
  · refine Runs.icN d29_69 (tlt hc1).2.1 <| ?_
    refine Runs.iload d29_72 rfl <| Runs.iloadN d29_74 rfl <| ?_
    refine ite_el hf (fun hc2 hf => ?_) (fun hc2 hf => ?_)
    · refine Runs.icY (pc' := 108) d29_75 (teq hc2).1 (by decide) <| ?_
      exact Runs.iinc (P' := [vr a, vi i1, vi i2, vn, vn, vi i5, vi (i6 + (1 : Int32))]) d29_108 ci_1 rfl (by decide) rfl <| Runs.goto (pc' := 63) d29_111 (by decide) <| hk63 i1 i2 i5 (i6 + (1 : Int32)) hf
    · refine Runs.icN d29_75 (feq hc2).1 <| ?_
      refine Runs.aloadN d29_78 rfl <| Runs.getA d29_79 fA_4 w19 (by decide) <| Runs.iload d29_82 rfl <| Runs.bipush d29_84 cb_8 <| Runs.imul d29_86 <| Runs.iload d29_87 rfl <| Runs.iadd d29_89 <| ?_
      refine chk_el hf fun hi3 hf => ?_
      refine Runs.ialoadA d29_90 fA_4 (by decide) hi3 <| Runs.aloadN d29_91 rfl <| Runs.getA d29_92 fA_2 w15 (by decide) <| Runs.iloadN d29_95 rfl <| Runs.bipush d29_96 cb_8 <| Runs.imul d29_98 <| Runs.iload d29_99 rfl <| Runs.iadd d29_101 <| ?_
      refine chk_el hf fun hi4 hf => ?_
      refine Runs.ialoadA d29_102 fA_2 (by decide) hi4 <| ?_
      refine ite_el hf (fun hc5 hf => ?_) (fun hc5 hf => ?_)
      · refine Runs.icN d29_103 (tlt hc5).2.2.2 <| ?_
        obtain rfl := Option.some.inj hf
        exact Runs.iconst d29_106 ci_0 <| Runs.retZ (y := (0 : Int32)) d29_107 rfl ⟨by decide, by decide⟩ rfl ⟨rfl, rfl⟩
      · refine Runs.icY (pc' := 108) d29_103 (flt hc5).2.2.2 (by decide) <| ?_
        exact Runs.iinc (P' := [vr a, vi i1, vi i2, vn, vn, vi i5, vi (i6 + (1 : Int32))]) d29_108 ci_1 rfl (by decide) rfl <| Runs.goto (pc' := 63) d29_111 (by decide) <| hk63 i1 i2 i5 (i6 + (1 : Int32)) hf
  · refine Runs.icY (pc' := 114) d29_69 (flt hc1).2.1 (by decide) <| ?_
    obtain rfl := Option.some.inj hf
    exact Runs.iconst d29_114 ci_1 <| Runs.retZ (y := (1 : Int32)) d29_115 rfl ⟨by decide, by decide⟩ rfl ⟨rfl, rfl⟩
theorem X_isDeliverable_l63_p {C : Ctx} {top : Nat} {a : Nat} {H : List (Nat × Nat × Rec)} {ob : Rec} {res : Int32} {NF : Nat} (n : Nat) (i1 : Int32) (i2 : Int32) (i5 : Int32) (i6 : Int32) (hf : X_isDeliverable_l63 NF ob n i1 i2 i5 i6 = some res) : Runs C B29 0 0 63 [vr a, vi i1, vi i2, vn, vn, vi i5, vi i6] [] (top, (a, 9, ob) :: H) (Ans (some (.int res)) (top, (a, 9, ob) :: H)) := by
  induction n generalizing i1 i2 i5 i6 with
  | zero => cases (show (none : Option (Int32)) = some res from hf)
  | succ n ih => exact X_isDeliverable_w63_p (X_isDeliverable_l63 NF ob n) (fun i1 i2 i5 i6 h => ih _ _ _ _ h) i1 i2 i5 i6 hf
def X_isDeliverable (NF : Nat) (ob : Rec) (i1 : Int32) (i2 : Int32) (i3 : Int32) : Option (Int32) :=
  (X_exists ob i2 i3).bind fun r6 =>
  if r6 = (0 : Int32) then
    some (0 : Int32)
  else
    (X_stateIndex ob i1 i2 i3).bind fun r9 =>
    chk (512 : Int32) r9 <|
    if (gA ob 3 r9) = (1 : Int32) then
      chk (64 : Int32) ((i1 * (8 : Int32)) + i2) <|
      if i3 = ((gA ob 2 ((i1 * (8 : Int32)) + i2)) + (1 : Int32)) then
        (X_msgIndex ob i2 i3).bind fun r15 =>
        X_isDeliverable_l63 NF ob NF i1 i2 r15 (0 : Int32)
      else
        some (0 : Int32)
    else
      some (0 : Int32)
set_option maxRecDepth 65536 in
set_option maxHeartbeats 4000000 in
theorem X_isDeliverable_p {C : Ctx} {top : Nat} {a : Nat} {H : List (Nat × Nat × Rec)} {ob : Rec} {res : Int32} {NF : Nat} (i1 : Int32) (i2 : Int32) (i3 : Int32) (hf : X_isDeliverable NF ob i1 i2 i3 = some res) : Runs C B29 0 0 0 [vr a, vi i1, vi i2, vi i3, vn, vn, vn] [] (top, (a, 9, ob) :: H) (Ans (some (.int res)) (top, (a, 9, ob) :: H)) := by
  delta X_isDeliverable at hf
  refine Runs.aloadN d29_0 rfl <| Runs.iloadN d29_1 rfl <| Runs.iloadN d29_2 rfl <| ?_
  refine bind_el hf fun r6 hg7 hf => ?_
  refine Runs.callP (N := B4) (W := 0) (as := [.int i2, .int i3]) (S' := []) d29_3 w44 w45 w46 rfl cw4 ar4 rk29_4_0 (by decide) rfl rfl (X_exists_pay hg7) <| ans1 <| ?_
  refine ite_el hf (fun hc8 hf => ?_) (fun hc8 hf => ?_)
  · refine Runs.ifN d29_6 (teq hc8).2 <| ?_
    obtain rfl := Option.some.inj hf
    exact Runs.iconst d29_9 ci_0 <| Runs.retZ (y := (0 : Int32)) d29_10 rfl ⟨by decide, by decide⟩ rfl ⟨rfl, rfl⟩
  · refine Runs.ifY (pc' := 11) d29_6 (feq hc8).2 (by decide) <| ?_
    refine Runs.aloadN d29_11 rfl <| Runs.iloadN d29_12 rfl <| Runs.iloadN d29_13 rfl <| Runs.iloadN d29_14 rfl <| ?_
    refine bind_el hf fun r9 hg10 hf => ?_
    refine Runs.callP (N := B17) (W := 0) (as := [.int i1, .int i2, .int i3]) (S' := []) d29_15 w105 w106 w107 rfl cw17 ar17 rk29_17_0 (by decide) rfl rfl (X_stateIndex_pay hg10) <| ans1 <| Runs.istore (P' := [vr a, vi i1, vi i2, vi i3, vi r9, vn, vn]) d29_18 (by decide) rfl <| Runs.aloadN d29_20 rfl <| Runs.getA d29_21 fA_3 w17 (by decide) <| Runs.iload d29_24 rfl <| ?_
    refine chk_el hf fun hi11 hf => ?_
    refine Runs.ialoadA d29_26 fA_3 (by decide) hi11 <| Runs.iconst d29_27 ci_1 <| ?_
    refine ite_el hf (fun hc12 hf => ?_) (fun hc12 hf => ?_)
    · refine Runs.icY (pc' := 33) d29_28 (teq hc12).1 (by decide) <| ?_
      refine Runs.iloadN d29_33 rfl <| Runs.aloadN d29_34 rfl <| Runs.getA d29_35 fA_2 w15 (by decide) <| Runs.iloadN d29_38 rfl <| Runs.bipush d29_39 cb_8 <| Runs.imul d29_41 <| Runs.iloadN d29_42 rfl <| Runs.iadd d29_43 <| ?_
      refine chk_el hf fun hi13 hf => ?_
      refine Runs.ialoadA d29_44 fA_2 (by decide) hi13 <| Runs.iconst d29_45 ci_1 <| Runs.iadd d29_46 <| ?_
      refine ite_el hf (fun hc14 hf => ?_) (fun hc14 hf => ?_)
      · refine Runs.icY (pc' := 52) d29_47 (teq hc14).1 (by decide) <| ?_
        refine Runs.aloadN d29_52 rfl <| Runs.iloadN d29_53 rfl <| Runs.iloadN d29_54 rfl <| ?_
        refine bind_el hf fun r15 hg16 hf => ?_
        exact Runs.callP (N := B15) (W := 0) (as := [.int i2, .int i3]) (S' := []) d29_55 w97 w98 w99 rfl cw15 ar15 rk29_15_0 (by decide) rfl rfl (X_msgIndex_pay hg16) <| ans1 <| Runs.istore (P' := [vr a, vi i1, vi i2, vi i3, vi r9, vi r15, vn]) d29_58 (by decide) rfl <| Runs.iconst d29_60 ci_0 <| Runs.istore (P' := [vr a, vi i1, vi i2, vi i3, vi r9, vi r15, vi (0 : Int32)]) d29_61 (by decide) rfl <| Runs.forget [true, true, true, false, false, true, true] rfl <| X_isDeliverable_l63_p NF i1 i2 r15 (0 : Int32) hf
      · refine Runs.icN d29_47 (feq hc14).1 <| ?_
        obtain rfl := Option.some.inj hf
        exact Runs.iconst d29_50 ci_0 <| Runs.retZ (y := (0 : Int32)) d29_51 rfl ⟨by decide, by decide⟩ rfl ⟨rfl, rfl⟩
    · refine Runs.icN d29_28 (feq hc12).1 <| ?_
      obtain rfl := Option.some.inj hf
      exact Runs.iconst d29_31 ci_0 <| Runs.retZ (y := (0 : Int32)) d29_32 rfl ⟨by decide, by decide⟩ rfl ⟨rfl, rfl⟩
theorem X_isDeliverable_pay {C : Ctx} {top : Nat} {a : Nat} {H : List (Nat × Nat × Rec)} {ob : Rec} {res : Int32} {NF : Nat} {i1 : Int32} {i2 : Int32} {i3 : Int32} (hf : X_isDeliverable NF ob i1 i2 i3 = some res) : Pays C B29 [.ref a, .int i1, .int i2, .int i3] (top, (a, 9, ob) :: H) (Ans (some (.int res)) (top, (a, 9, ob) :: H)) :=
  Pays.of pnK (Nat.le_of_ble_eq_true rfl) (P := [vr a, vi i1, vi i2, vi i3, vn, vn, vn]) 3 rfl (X_isDeliverable_p i1 i2 i3 hf)
def X_cascade_b73 (NF : Nat) (k4 : Rec → Int32 → Int32 → Int32 → Option (Int32 × Rec)) (ob : Rec) (i1 : Int32) (i2 : Int32) (i3 : Int32) (i4 : Int32) (i5 : Int32) : Option (Int32 × Rec) :=
  if i4 < (0 : Int32) then
    some (i2, ob)
  else
    (X_deliverAt ob i1 i4 i5).bind fun q8 =>
    k4 q8 i1 (i2 + (1 : Int32)) (i3 + (1 : Int32))
set_option maxRecDepth 65536 in
set_option maxHeartbeats 4000000 in
theorem X_cascade_b73_p {C : Ctx} {top : Nat} {a : Nat} {H : List (Nat × Nat × Rec)} {res : Int32 × Rec} {NF : Nat} (k4 : Rec → Int32 → Int32 → Int32 → Option (Int32 × Rec)) (hk4 : ∀ (ob : Rec) (i1 : Int32) (i2 : Int32) (i3 : Int32), k4 ob i1 i2 i3 = some res → Runs C B28 0 0 4 [vr a, vi i1, vi i2, vi i3, vn, vn, vn, vn] [] (top, (a, 9, ob) :: H) (Ans (some (.int res.1)) (top, (a, 9, res.2) :: H))) (ob : Rec) (i1 : Int32) (i2 : Int32) (i3 : Int32) (i4 : Int32) (i5 : Int32) (hf : X_cascade_b73 NF k4 ob i1 i2 i3 i4 i5 = some res) : Runs C B28 0 0 73 [vr a, vi i1, vi i2, vi i3, vi i4, vi i5, vn, vn] [] (top, (a, 9, ob) :: H) (Ans (some (.int res.1)) (top, (a, 9, res.2) :: H)) := by
  delta X_cascade_b73 at hf
  refine Runs.iload d28_73 rfl <| ?_
  refine ite_el hf (fun hc7 hf => ?_) (fun hc7 hf => ?_)
  · refine Runs.ifN d28_75 (tlt hc7).2.1 <| ?_
    obtain rfl := Option.some.inj hf
    exact Runs.goto (pc' := 99) d28_78 (by decide) <| Runs.iloadN d28_99 rfl <| Runs.retI d28_100 rfl ⟨by decide, by decide⟩ ⟨rfl, rfl⟩
  · refine Runs.ifY (pc' := 81) d28_75 (flt hc7).2.1 (by decide) <| ?_
    refine Runs.aloadN d28_81 rfl <| Runs.iloadN d28_82 rfl <| Runs.iload d28_83 rfl <| Runs.iload d28_85 rfl <| ?_
    refine bind_el hf fun q8 hg9 hf => ?_
    exact Runs.callP (N := B16) (W := 0) (as := [.int i1, .int i4, .int i5]) (S' := []) d28_87 w101 w102 w103 rfl cw16 ar16 rk28_16_0 (by decide) rfl rfl (X_deliverAt_pay hg9) <| ans0 <| Runs.iinc (P' := [vr a, vi i1, vi (i2 + (1 : Int32)), vi i3, vi i4, vi i5, vn, vn]) d28_90 ci_1 rfl (by decide) rfl <| Runs.iinc (P' := [vr a, vi i1, vi (i2 + (1 : Int32)), vi (i3 + (1 : Int32)), vi i4, vi i5, vn, vn]) d28_93 ci_1 rfl (by decide) rfl <| Runs.goto (pc' := 4) d28_96 (by decide) <| Runs.forget [true, true, true, true, false, false, false, false] rfl <| hk4 q8 i1 (i2 + (1 : Int32)) (i3 + (1 : Int32)) hf
def X_cascade_w19 (NF : Nat) (k4 : Rec → Int32 → Int32 → Int32 → Option (Int32 × Rec)) (k19 : Rec → Int32 → Int32 → Int32 → Int32 → Int32 → Int32 → Option (Int32 × Rec)) (ob : Rec) (i1 : Int32) (i2 : Int32) (i3 : Int32) (i4 : Int32) (i5 : Int32) (i6 : Int32) : Option (Int32 × Rec) :=
  if i6 < (gI ob 0) then
    chk (64 : Int32) ((i1 * (8 : Int32)) + i6) <|
    (X_isDeliverable NF ob i1 i6 ((gA ob 2 ((i1 * (8 : Int32)) + i6)) + (1 : Int32))).bind fun r4 =>
    if r4 = (0 : Int32) then
      k19 ob i1 i2 i3 i4 i5 (i6 + (1 : Int32))
    else
      X_cascade_b73 NF k4 ob i1 i2 i3 i6 ((gA ob 2 ((i1 * (8 : Int32)) + i6)) + (1 : Int32))
  else
    X_cascade_b73 NF k4 ob i1 i2 i3 i4 i5
def X_cascade_l19 (NF : Nat) (k4 : Rec → Int32 → Int32 → Int32 → Option (Int32 × Rec)) : Nat → Rec → Int32 → Int32 → Int32 → Int32 → Int32 → Int32 → Option (Int32 × Rec)
  | 0, _, _, _, _, _, _, _ => none
  | n + 1, ob, i1, i2, i3, i4, i5, i6 => X_cascade_w19 NF k4 (X_cascade_l19 NF k4 n) ob i1 i2 i3 i4 i5 i6
set_option maxRecDepth 65536 in
set_option maxHeartbeats 4000000 in
theorem X_cascade_w19_p {C : Ctx} {top : Nat} {a : Nat} {H : List (Nat × Nat × Rec)} {res : Int32 × Rec} {NF : Nat} (k4 : Rec → Int32 → Int32 → Int32 → Option (Int32 × Rec)) (hk4 : ∀ (ob : Rec) (i1 : Int32) (i2 : Int32) (i3 : Int32), k4 ob i1 i2 i3 = some res → Runs C B28 0 0 4 [vr a, vi i1, vi i2, vi i3, vn, vn, vn, vn] [] (top, (a, 9, ob) :: H) (Ans (some (.int res.1)) (top, (a, 9, res.2) :: H))) (k19 : Rec → Int32 → Int32 → Int32 → Int32 → Int32 → Int32 → Option (Int32 × Rec)) (hk19 : ∀ (ob : Rec) (i1 : Int32) (i2 : Int32) (i3 : Int32) (i4 : Int32) (i5 : Int32) (i6 : Int32), k19 ob i1 i2 i3 i4 i5 i6 = some res → Runs C B28 0 0 19 [vr a, vi i1, vi i2, vi i3, vi i4, vi i5, vi i6, vn] [] (top, (a, 9, ob) :: H) (Ans (some (.int res.1)) (top, (a, 9, res.2) :: H))) (ob : Rec) (i1 : Int32) (i2 : Int32) (i3 : Int32) (i4 : Int32) (i5 : Int32) (i6 : Int32) (hf : X_cascade_w19 NF k4 k19 ob i1 i2 i3 i4 i5 i6 = some res) : Runs C B28 0 0 19 [vr a, vi i1, vi i2, vi i3, vi i4, vi i5, vi i6, vn] [] (top, (a, 9, ob) :: H) (Ans (some (.int res.1)) (top, (a, 9, res.2) :: H)) := by
  delta X_cascade_w19 at hf
  refine Runs.iload d28_19 rfl <| Runs.aloadN d28_21 rfl <| Runs.getI d28_22 w29 fS_0 <| ?_
  refine ite_el hf (fun hc2 hf => ?_) (fun hc2 hf => ?_)
  · refine Runs.icN d28_25 (tlt hc2).2.1 <| ?_
    refine Runs.aloadN d28_28 rfl <| Runs.getA d28_29 fA_2 w15 (by decide) <| Runs.iloadN d28_32 rfl <| Runs.bipush d28_33 cb_8 <| Runs.imul d28_35 <| Runs.iload d28_36 rfl <| Runs.iadd d28_38 <| ?_
    refine chk_el hf fun hi3 hf => ?_
    refine Runs.ialoadA d28_39 fA_2 (by decide) hi3 <| Runs.iconst d28_40 ci_1 <| Runs.iadd d28_41 <| Runs.istore (P' := [vr a, vi i1, vi i2, vi i3, vi i4, vi i5, vi i6, vi ((gA ob 2 ((i1 * (8 : Int32)) + i6)) + (1 : Int32))]) d28_42 (by decide) rfl <| Runs.aloadN d28_44 rfl <| Runs.iloadN d28_45 rfl <| Runs.iload d28_46 rfl <| Runs.iload d28_48 rfl <| ?_
    refine bind_el hf fun r4 hg5 hf => ?_
    refine Runs.callP (N := B29) (W := 0) (as := [.int i1, .int i6, .int ((gA ob 2 ((i1 * (8 : Int32)) + i6)) + (1 : Int32))]) (S' := []) d28_50 w161 w162 w163 rfl cw29 ar29 rk28_29_0 (by decide) rfl rfl (X_isDeliverable_pay hg5) <| ans1 <| ?_
    refine ite_el hf (fun hc6 hf => ?_) (fun hc6 hf => ?_)
    · refine Runs.ifY (pc' := 67) d28_53 (teq hc6).1 (by decide) <| ?_
      exact Runs.iinc (P' := [vr a, vi i1, vi i2, vi i3, vi i4, vi i5, vi (i6 + (1 : Int32)), vi ((gA ob 2 ((i1 * (8 : Int32)) + i6)) + (1 : Int32))]) d28_67 ci_1 rfl (by decide) rfl <| Runs.goto (pc' := 19) d28_70 (by decide) <| Runs.forget [true, true, true, true, true, true, true, false] rfl <| hk19 ob i1 i2 i3 i4 i5 (i6 + (1 : Int32)) hf
    · refine Runs.ifN d28_53 (feq hc6).1 <| ?_
      exact Runs.iload d28_56 rfl <| Runs.istore (P' := [vr a, vi i1, vi i2, vi i3, vi i6, vi i5, vi i6, vi ((gA ob 2 ((i1 * (8 : Int32)) + i6)) + (1 : Int32))]) d28_58 (by decide) rfl <| Runs.iload d28_60 rfl <| Runs.istore (P' := [vr a, vi i1, vi i2, vi i3, vi i6, vi ((gA ob 2 ((i1 * (8 : Int32)) + i6)) + (1 : Int32)), vi i6, vi ((gA ob 2 ((i1 * (8 : Int32)) + i6)) + (1 : Int32))]) d28_62 (by decide) rfl <| Runs.goto (pc' := 73) d28_64 (by decide) <| Runs.forget [true, true, true, true, true, true, false, false] rfl <| X_cascade_b73_p k4 hk4 ob i1 i2 i3 i6 ((gA ob 2 ((i1 * (8 : Int32)) + i6)) + (1 : Int32)) hf
  · exact Runs.icY (pc' := 73) d28_25 (flt hc2).2.1 (by decide) <| Runs.forget [true, true, true, true, true, true, false, false] rfl <| X_cascade_b73_p k4 hk4 ob i1 i2 i3 i4 i5 hf
theorem X_cascade_l19_p {C : Ctx} {top : Nat} {a : Nat} {H : List (Nat × Nat × Rec)} {res : Int32 × Rec} {NF : Nat} (k4 : Rec → Int32 → Int32 → Int32 → Option (Int32 × Rec)) (hk4 : ∀ (ob : Rec) (i1 : Int32) (i2 : Int32) (i3 : Int32), k4 ob i1 i2 i3 = some res → Runs C B28 0 0 4 [vr a, vi i1, vi i2, vi i3, vn, vn, vn, vn] [] (top, (a, 9, ob) :: H) (Ans (some (.int res.1)) (top, (a, 9, res.2) :: H))) (n : Nat) (ob : Rec) (i1 : Int32) (i2 : Int32) (i3 : Int32) (i4 : Int32) (i5 : Int32) (i6 : Int32) (hf : X_cascade_l19 NF k4 n ob i1 i2 i3 i4 i5 i6 = some res) : Runs C B28 0 0 19 [vr a, vi i1, vi i2, vi i3, vi i4, vi i5, vi i6, vn] [] (top, (a, 9, ob) :: H) (Ans (some (.int res.1)) (top, (a, 9, res.2) :: H)) := by
  induction n generalizing ob i1 i2 i3 i4 i5 i6 with
  | zero => cases (show (none : Option (Int32 × Rec)) = some res from hf)
  | succ n ih => exact X_cascade_w19_p k4 hk4 (X_cascade_l19 NF k4 n) (fun ob i1 i2 i3 i4 i5 i6 h => ih _ _ _ _ _ _ _ h) ob i1 i2 i3 i4 i5 i6 hf
def X_cascade_w4 (NF : Nat) (k4 : Rec → Int32 → Int32 → Int32 → Option (Int32 × Rec)) (ob : Rec) (i1 : Int32) (i2 : Int32) (i3 : Int32) : Option (Int32 × Rec) :=
  if i3 < (65 : Int32) then
    X_cascade_l19 NF k4 NF ob i1 i2 i3 (-1 : Int32) (0 : Int32) (0 : Int32)
  else
    some (i2, ob)
def X_cascade_l4 (NF : Nat) : Nat → Rec → Int32 → Int32 → Int32 → Option (Int32 × Rec)
  | 0, _, _, _, _ => none
  | n + 1, ob, i1, i2, i3 => X_cascade_w4 NF (X_cascade_l4 NF n) ob i1 i2 i3
set_option maxRecDepth 65536 in
set_option maxHeartbeats 4000000 in
theorem X_cascade_w4_p {C : Ctx} {top : Nat} {a : Nat} {H : List (Nat × Nat × Rec)} {res : Int32 × Rec} {NF : Nat} (k4 : Rec → Int32 → Int32 → Int32 → Option (Int32 × Rec)) (hk4 : ∀ (ob : Rec) (i1 : Int32) (i2 : Int32) (i3 : Int32), k4 ob i1 i2 i3 = some res → Runs C B28 0 0 4 [vr a, vi i1, vi i2, vi i3, vn, vn, vn, vn] [] (top, (a, 9, ob) :: H) (Ans (some (.int res.1)) (top, (a, 9, res.2) :: H))) (ob : Rec) (i1 : Int32) (i2 : Int32) (i3 : Int32) (hf : X_cascade_w4 NF k4 ob i1 i2 i3 = some res) : Runs C B28 0 0 4 [vr a, vi i1, vi i2, vi i3, vn, vn, vn, vn] [] (top, (a, 9, ob) :: H) (Ans (some (.int res.1)) (top, (a, 9, res.2) :: H)) := by
  delta X_cascade_w4 at hf
  refine Runs.iloadN d28_4 rfl <| Runs.bipush d28_5 cb_65 <| ?_
  refine ite_el hf (fun hc1 hf => ?_) (fun hc1 hf => ?_)
  · refine Runs.icN d28_7 (tlt hc1).2.1 <| ?_
    exact Runs.iconst d28_10 ci_m1 <| Runs.istore (P' := [vr a, vi i1, vi i2, vi i3, vi (-1 : Int32), vn, vn, vn]) d28_11 (by decide) rfl <| Runs.iconst d28_13 ci_0 <| Runs.istore (P' := [vr a, vi i1, vi i2, vi i3, vi (-1 : Int32), vi (0 : Int32), vn, vn]) d28_14 (by decide) rfl <| Runs.iconst d28_16 ci_0 <| Runs.istore (P' := [vr a, vi i1, vi i2, vi i3, vi (-1 : Int32), vi (0 : Int32), vi (0 : Int32), vn]) d28_17 (by decide) rfl <| X_cascade_l19_p k4 hk4 NF ob i1 i2 i3 (-1 : Int32) (0 : Int32) (0 : Int32) hf
  · refine Runs.icY (pc' := 99) d28_7 (flt hc1).2.1 (by decide) <| ?_
    obtain rfl := Option.some.inj hf
    exact Runs.iloadN d28_99 rfl <| Runs.retI d28_100 rfl ⟨by decide, by decide⟩ ⟨rfl, rfl⟩
theorem X_cascade_l4_p {C : Ctx} {top : Nat} {a : Nat} {H : List (Nat × Nat × Rec)} {res : Int32 × Rec} {NF : Nat} (n : Nat) (ob : Rec) (i1 : Int32) (i2 : Int32) (i3 : Int32) (hf : X_cascade_l4 NF n ob i1 i2 i3 = some res) : Runs C B28 0 0 4 [vr a, vi i1, vi i2, vi i3, vn, vn, vn, vn] [] (top, (a, 9, ob) :: H) (Ans (some (.int res.1)) (top, (a, 9, res.2) :: H)) := by
  induction n generalizing ob i1 i2 i3 with
  | zero => cases (show (none : Option (Int32 × Rec)) = some res from hf)
  | succ n ih => exact X_cascade_w4_p (X_cascade_l4 NF n) (fun ob i1 i2 i3 h => ih _ _ _ _ h) ob i1 i2 i3 hf
def X_cascade (NF : Nat) (ob : Rec) (i1 : Int32) : Option (Int32 × Rec) :=
  X_cascade_l4 NF NF ob i1 (0 : Int32) (0 : Int32)
set_option maxRecDepth 65536 in
set_option maxHeartbeats 4000000 in
theorem X_cascade_p {C : Ctx} {top : Nat} {a : Nat} {H : List (Nat × Nat × Rec)} {res : Int32 × Rec} {NF : Nat} (ob : Rec) (i1 : Int32) (hf : X_cascade NF ob i1 = some res) : Runs C B28 0 0 0 [vr a, vi i1, vn, vn, vn, vn, vn, vn] [] (top, (a, 9, ob) :: H) (Ans (some (.int res.1)) (top, (a, 9, res.2) :: H)) := by
  delta X_cascade at hf
  exact Runs.iconst d28_0 ci_0 <| Runs.istoreN (P' := [vr a, vi i1, vi (0 : Int32), vn, vn, vn, vn, vn]) d28_1 (by decide) rfl <| Runs.iconst d28_2 ci_0 <| Runs.istoreN (P' := [vr a, vi i1, vi (0 : Int32), vi (0 : Int32), vn, vn, vn, vn]) d28_3 (by decide) rfl <| X_cascade_l4_p NF ob i1 (0 : Int32) (0 : Int32) hf
theorem X_cascade_pay {C : Ctx} {top : Nat} {a : Nat} {H : List (Nat × Nat × Rec)} {res : Int32 × Rec} {NF : Nat} {ob : Rec} {i1 : Int32} (hf : X_cascade NF ob i1 = some res) : Pays C B28 [.ref a, .int i1] (top, (a, 9, ob) :: H) (Ans (some (.int res.1)) (top, (a, 9, res.2) :: H)) :=
  Pays.of pnK (Nat.le_of_ble_eq_true rfl) (P := [vr a, vi i1, vn, vn, vn, vn, vn, vn]) 6 rfl (X_cascade_p ob i1 hf)
def X_receive (NF : Nat) (ob : Rec) (i1 : Int32) (i2 : Int32) (i3 : Int32) : Option (Int32 × Rec) :=
  (X_validProc ob i1).bind fun r1 =>
  if r1 = (0 : Int32) then
    some ((-1 : Int32), ob)
  else
    (X_exists ob i2 i3).bind fun r4 =>
    if r4 = (0 : Int32) then
      some ((-1 : Int32), ob)
    else
      chk (8 : Int32) i1 <|
      if (gA ob 1 i1) = (0 : Int32) then
        (X_copyIndex ob i2 i3 i1).bind fun r9 =>
        chk (512 : Int32) r9 <|
        if (gA ob 5 r9) = (0 : Int32) then
          some ((-4 : Int32), ob)
        else
          chk (512 : Int32) r9 <|
          chk (512 : Int32) r9 <|
          (X_stateIndex (sA ob 5 r9 ((gA ob 5 r9) - (1 : Int32))) i1 i2 i3).bind fun r15 =>
          chk (512 : Int32) r15 <|
          if (gA ob 3 r15) = (0 : Int32) then
            chk (512 : Int32) r15 <|
            bind2 (X_cascade NF (sA (sA ob 5 r9 ((gA ob 5 r9) - (1 : Int32))) 3 r15 (1 : Int32)) i1) fun r20 q21 =>
            some (r20, q21)
          else
            some ((-5 : Int32), (sA ob 5 r9 ((gA ob 5 r9) - (1 : Int32))))
      else
        some ((-2 : Int32), ob)
set_option maxRecDepth 65536 in
set_option maxHeartbeats 4000000 in
theorem X_receive_p {C : Ctx} {top : Nat} {a : Nat} {H : List (Nat × Nat × Rec)} {res : Int32 × Rec} {NF : Nat} (ob : Rec) (i1 : Int32) (i2 : Int32) (i3 : Int32) (hf : X_receive NF ob i1 i2 i3 = some res) : Runs C B22 0 0 0 [vr a, vi i1, vi i2, vi i3, vn, vn] [] (top, (a, 9, ob) :: H) (Ans (some (.int res.1)) (top, (a, 9, res.2) :: H)) := by
  delta X_receive at hf
  refine Runs.aloadN d22_0 rfl <| Runs.iloadN d22_1 rfl <| ?_
  refine bind_el hf fun r1 hg2 hf => ?_
  refine Runs.callP (N := B7) (W := 0) (as := [.int i1]) (S' := []) d22_2 w58 w59 w60 rfl cw7 ar7 rk22_7_0 (by decide) rfl rfl (X_validProc_pay hg2) <| ans1 <| ?_
  refine ite_el hf (fun hc3 hf => ?_) (fun hc3 hf => ?_)
  · refine Runs.ifY (pc' := 17) d22_5 (teq hc3).1 (by decide) <| ?_
    obtain rfl := Option.some.inj hf
    exact Runs.iconst d22_17 ci_m1 <| Runs.retI d22_18 rfl ⟨by decide, by decide⟩ ⟨rfl, rfl⟩
  · refine Runs.ifN d22_5 (feq hc3).1 <| ?_
    refine Runs.aloadN d22_8 rfl <| Runs.iloadN d22_9 rfl <| Runs.iloadN d22_10 rfl <| ?_
    refine bind_el hf fun r4 hg5 hf => ?_
    refine Runs.callP (N := B4) (W := 0) (as := [.int i2, .int i3]) (S' := []) d22_11 w44 w45 w46 rfl cw4 ar4 rk22_4_0 (by decide) rfl rfl (X_exists_pay hg5) <| ans1 <| ?_
    refine ite_el hf (fun hc6 hf => ?_) (fun hc6 hf => ?_)
    · refine Runs.ifN d22_14 (teq hc6).2 <| ?_
      obtain rfl := Option.some.inj hf
      exact Runs.iconst d22_17 ci_m1 <| Runs.retI d22_18 rfl ⟨by decide, by decide⟩ ⟨rfl, rfl⟩
    · refine Runs.ifY (pc' := 19) d22_14 (feq hc6).2 (by decide) <| ?_
      refine Runs.aloadN d22_19 rfl <| Runs.getA d22_20 fA_1 w13 (by decide) <| Runs.iloadN d22_23 rfl <| ?_
      refine chk_el hf fun hi7 hf => ?_
      refine Runs.baloadA d22_24 fA_1 (by decide) hi7 <| ?_
      refine ite_el hf (fun hc8 hf => ?_) (fun hc8 hf => ?_)
      · refine Runs.ifY (pc' := 31) d22_25 (teq hc8).1 (by decide) <| ?_
        refine Runs.aloadN d22_31 rfl <| Runs.iloadN d22_32 rfl <| Runs.iloadN d22_33 rfl <| Runs.iloadN d22_34 rfl <| ?_
        refine bind_el hf fun r9 hg10 hf => ?_
        refine Runs.callP (N := B18) (W := 0) (as := [.int i2, .int i3, .int i1]) (S' := []) d22_35 w109 w110 w111 rfl cw18 ar18 rk22_18_0 (by decide) rfl rfl (X_copyIndex_pay hg10) <| ans1 <| Runs.istore (P' := [vr a, vi i1, vi i2, vi i3, vi r9, vn]) d22_38 (by decide) rfl <| Runs.aloadN d22_40 rfl <| Runs.getA d22_41 fA_5 w21 (by decide) <| Runs.iload d22_44 rfl <| ?_
        refine chk_el hf fun hi11 hf => ?_
        refine Runs.ialoadA d22_46 fA_5 (by decide) hi11 <| ?_
        refine ite_el hf (fun hc12 hf => ?_) (fun hc12 hf => ?_)
        · refine Runs.ifN d22_47 (teq hc12).2 <| ?_
          obtain rfl := Option.some.inj hf
          exact Runs.bipush d22_50 cb_m4 <| Runs.retI d22_52 rfl ⟨by decide, by decide⟩ ⟨rfl, rfl⟩
        · refine Runs.ifY (pc' := 53) d22_47 (feq hc12).2 (by decide) <| ?_
          refine Runs.aloadN d22_53 rfl <| Runs.getA d22_54 fA_5 w21 (by decide) <| Runs.iload d22_57 rfl <| Runs.aloadN d22_59 rfl <| Runs.getA d22_60 fA_5 w21 (by decide) <| Runs.iload d22_63 rfl <| ?_
          refine chk_el hf fun hi13 hf => ?_
          refine Runs.ialoadA d22_65 fA_5 (by decide) hi13 <| Runs.iconst d22_66 ci_1 <| Runs.isub d22_67 <| ?_
          refine chk_el hf fun hi14 hf => ?_
          refine Runs.iastoreA d22_68 fA_5 (by decide) hi14 <| Runs.aloadN d22_69 rfl <| Runs.iloadN d22_70 rfl <| Runs.iloadN d22_71 rfl <| Runs.iloadN d22_72 rfl <| ?_
          refine bind_el hf fun r15 hg16 hf => ?_
          refine Runs.callP (N := B17) (W := 0) (as := [.int i1, .int i2, .int i3]) (S' := []) d22_73 w105 w106 w107 rfl cw17 ar17 rk22_17_0 (by decide) rfl rfl (X_stateIndex_pay hg16) <| ans1 <| Runs.istore (P' := [vr a, vi i1, vi i2, vi i3, vi r9, vi r15]) d22_76 (by decide) rfl <| Runs.aloadN d22_78 rfl <| Runs.getA d22_79 fA_3 w17 (by decide) <| Runs.iload d22_82 rfl <| ?_
          refine chk_el hf fun hi17 hf => ?_
          refine Runs.ialoadA d22_84 fA_3 (by decide) hi17 <| ?_
          refine ite_el hf (fun hc18 hf => ?_) (fun hc18 hf => ?_)
          · refine Runs.ifY (pc' := 91) d22_85 (teq hc18).1 (by decide) <| ?_
            refine Runs.aloadN d22_91 rfl <| Runs.getA d22_92 fA_3 w17 (by decide) <| Runs.iload d22_95 rfl <| Runs.iconst d22_97 ci_1 <| ?_
            refine chk_el hf fun hi19 hf => ?_
            refine Runs.iastoreA d22_98 fA_3 (by decide) hi19 <| Runs.aloadN d22_99 rfl <| Runs.iloadN d22_100 rfl <| ?_
            refine bind2_el hf fun r20 q21 hg22 hf => ?_
            obtain rfl := Option.some.inj hf
            exact Runs.callP (N := B28) (W := 0) (as := [.int i1]) (S' := []) d22_101 w157 w158 w159 rfl cw28 ar28 rk22_28_0 (by decide) rfl rfl (X_cascade_pay hg22) <| ans1 <| Runs.retI d22_104 rfl ⟨by decide, by decide⟩ ⟨rfl, rfl⟩
          · refine Runs.ifN d22_85 (feq hc18).1 <| ?_
            obtain rfl := Option.some.inj hf
            exact Runs.bipush d22_88 cb_m5 <| Runs.retI d22_90 rfl ⟨by decide, by decide⟩ ⟨rfl, rfl⟩
      · refine Runs.ifN d22_25 (feq hc8).1 <| ?_
        obtain rfl := Option.some.inj hf
        exact Runs.bipush d22_28 cb_m2 <| Runs.retI d22_30 rfl ⟨by decide, by decide⟩ ⟨rfl, rfl⟩
theorem X_receive_pay {C : Ctx} {top : Nat} {a : Nat} {H : List (Nat × Nat × Rec)} {res : Int32 × Rec} {NF : Nat} {ob : Rec} {i1 : Int32} {i2 : Int32} {i3 : Int32} (hf : X_receive NF ob i1 i2 i3 = some res) : Pays C B22 [.ref a, .int i1, .int i2, .int i3] (top, (a, 9, ob) :: H) (Ans (some (.int res.1)) (top, (a, 9, res.2) :: H)) :=
  Pays.of pnK (Nat.le_of_ble_eq_true rfl) (P := [vr a, vi i1, vi i2, vi i3, vn, vn]) 2 rfl (X_receive_p ob i1 i2 i3 hf)
def X_duplicate (ob : Rec) (i1 : Int32) (i2 : Int32) (i3 : Int32) : Option (Int32 × Rec) :=
  (X_exists ob i1 i2).bind fun r1 =>
  if r1 = (0 : Int32) then
    some ((-1 : Int32), ob)
  else
    (X_validProc ob i3).bind fun r4 =>
    if r4 = (0 : Int32) then
      some ((-1 : Int32), ob)
    else
      (X_copyIndex ob i1 i2 i3).bind fun r7 =>
      chk (512 : Int32) r7 <|
      if (gA ob 5 r7) = (0 : Int32) then
        some ((-4 : Int32), ob)
      else
        chk (512 : Int32) r7 <|
        if (gA ob 5 r7) < (3 : Int32) then
          chk (512 : Int32) r7 <|
          chk (512 : Int32) r7 <|
          chk (512 : Int32) r7 <|
          some ((gA (sA ob 5 r7 ((gA ob 5 r7) + (1 : Int32))) 5 r7), (sA ob 5 r7 ((gA ob 5 r7) + (1 : Int32))))
        else
          some ((-3 : Int32), ob)
set_option maxRecDepth 65536 in
set_option maxHeartbeats 4000000 in
theorem X_duplicate_p {C : Ctx} {top : Nat} {a : Nat} {H : List (Nat × Nat × Rec)} {res : Int32 × Rec} (ob : Rec) (i1 : Int32) (i2 : Int32) (i3 : Int32) (hf : X_duplicate ob i1 i2 i3 = some res) : Runs C B19 0 0 0 [vr a, vi i1, vi i2, vi i3, vn] [] (top, (a, 9, ob) :: H) (Ans (some (.int res.1)) (top, (a, 9, res.2) :: H)) := by
  delta X_duplicate at hf
  refine Runs.aloadN d19_0 rfl <| Runs.iloadN d19_1 rfl <| Runs.iloadN d19_2 rfl <| ?_
  refine bind_el hf fun r1 hg2 hf => ?_
  refine Runs.callP (N := B4) (W := 0) (as := [.int i1, .int i2]) (S' := []) d19_3 w44 w45 w46 rfl cw4 ar4 rk19_4_0 (by decide) rfl rfl (X_exists_pay hg2) <| ans1 <| ?_
  refine ite_el hf (fun hc3 hf => ?_) (fun hc3 hf => ?_)
  · refine Runs.ifY (pc' := 17) d19_6 (teq hc3).1 (by decide) <| ?_
    obtain rfl := Option.some.inj hf
    exact Runs.iconst d19_17 ci_m1 <| Runs.retI d19_18 rfl ⟨by decide, by decide⟩ ⟨rfl, rfl⟩
  · refine Runs.ifN d19_6 (feq hc3).1 <| ?_
    refine Runs.aloadN d19_9 rfl <| Runs.iloadN d19_10 rfl <| ?_
    refine bind_el hf fun r4 hg5 hf => ?_
    refine Runs.callP (N := B7) (W := 0) (as := [.int i3]) (S' := []) d19_11 w58 w59 w60 rfl cw7 ar7 rk19_7_0 (by decide) rfl rfl (X_validProc_pay hg5) <| ans1 <| ?_
    refine ite_el hf (fun hc6 hf => ?_) (fun hc6 hf => ?_)
    · refine Runs.ifN d19_14 (teq hc6).2 <| ?_
      obtain rfl := Option.some.inj hf
      exact Runs.iconst d19_17 ci_m1 <| Runs.retI d19_18 rfl ⟨by decide, by decide⟩ ⟨rfl, rfl⟩
    · refine Runs.ifY (pc' := 19) d19_14 (feq hc6).2 (by decide) <| ?_
      refine Runs.aloadN d19_19 rfl <| Runs.iloadN d19_20 rfl <| Runs.iloadN d19_21 rfl <| Runs.iloadN d19_22 rfl <| ?_
      refine bind_el hf fun r7 hg8 hf => ?_
      refine Runs.callP (N := B18) (W := 0) (as := [.int i1, .int i2, .int i3]) (S' := []) d19_23 w109 w110 w111 rfl cw18 ar18 rk19_18_0 (by decide) rfl rfl (X_copyIndex_pay hg8) <| ans1 <| Runs.istore (P' := [vr a, vi i1, vi i2, vi i3, vi r7]) d19_26 (by decide) rfl <| Runs.aloadN d19_28 rfl <| Runs.getA d19_29 fA_5 w21 (by decide) <| Runs.iload d19_32 rfl <| ?_
      refine chk_el hf fun hi9 hf => ?_
      refine Runs.ialoadA d19_34 fA_5 (by decide) hi9 <| ?_
      refine ite_el hf (fun hc10 hf => ?_) (fun hc10 hf => ?_)
      · refine Runs.ifN d19_35 (teq hc10).2 <| ?_
        obtain rfl := Option.some.inj hf
        exact Runs.bipush d19_38 cb_m4 <| Runs.retI d19_40 rfl ⟨by decide, by decide⟩ ⟨rfl, rfl⟩
      · refine Runs.ifY (pc' := 41) d19_35 (feq hc10).2 (by decide) <| ?_
        refine Runs.aloadN d19_41 rfl <| Runs.getA d19_42 fA_5 w21 (by decide) <| Runs.iload d19_45 rfl <| ?_
        refine chk_el hf fun hi11 hf => ?_
        refine Runs.ialoadA d19_47 fA_5 (by decide) hi11 <| Runs.iconst d19_48 ci_3 <| ?_
        refine ite_el hf (fun hc12 hf => ?_) (fun hc12 hf => ?_)
        · refine Runs.icY (pc' := 55) d19_49 (tlt hc12).1 (by decide) <| ?_
          refine Runs.aloadN d19_55 rfl <| Runs.getA d19_56 fA_5 w21 (by decide) <| Runs.iload d19_59 rfl <| Runs.aloadN d19_61 rfl <| Runs.getA d19_62 fA_5 w21 (by decide) <| Runs.iload d19_65 rfl <| ?_
          refine chk_el hf fun hi13 hf => ?_
          refine Runs.ialoadA d19_67 fA_5 (by decide) hi13 <| Runs.iconst d19_68 ci_1 <| Runs.iadd d19_69 <| ?_
          refine chk_el hf fun hi14 hf => ?_
          refine Runs.iastoreA d19_70 fA_5 (by decide) hi14 <| Runs.aloadN d19_71 rfl <| Runs.getA d19_72 fA_5 w21 (by decide) <| Runs.iload d19_75 rfl <| ?_
          refine chk_el hf fun hi15 hf => ?_
          obtain rfl := Option.some.inj hf
          exact Runs.ialoadA d19_77 fA_5 (by decide) hi15 <| Runs.retI d19_78 rfl ⟨by decide, by decide⟩ ⟨rfl, rfl⟩
        · refine Runs.icN d19_49 (flt hc12).1 <| ?_
          obtain rfl := Option.some.inj hf
          exact Runs.bipush d19_52 cb_m3 <| Runs.retI d19_54 rfl ⟨by decide, by decide⟩ ⟨rfl, rfl⟩
theorem X_duplicate_pay {C : Ctx} {top : Nat} {a : Nat} {H : List (Nat × Nat × Rec)} {res : Int32 × Rec} {ob : Rec} {i1 : Int32} {i2 : Int32} {i3 : Int32} (hf : X_duplicate ob i1 i2 i3 = some res) : Pays C B19 [.ref a, .int i1, .int i2, .int i3] (top, (a, 9, ob) :: H) (Ans (some (.int res.1)) (top, (a, 9, res.2) :: H)) :=
  Pays.of pnK (Nat.le_of_ble_eq_true rfl) (P := [vr a, vi i1, vi i2, vi i3, vn]) 1 rfl (X_duplicate_p ob i1 i2 i3 hf)
def X_drop (ob : Rec) (i1 : Int32) (i2 : Int32) (i3 : Int32) : Option (Int32 × Rec) :=
  (X_exists ob i1 i2).bind fun r1 =>
  if r1 = (0 : Int32) then
    some ((-1 : Int32), ob)
  else
    (X_validProc ob i3).bind fun r4 =>
    if r4 = (0 : Int32) then
      some ((-1 : Int32), ob)
    else
      (X_copyIndex ob i1 i2 i3).bind fun r7 =>
      chk (512 : Int32) r7 <|
      if (gA ob 5 r7) = (0 : Int32) then
        some ((-4 : Int32), ob)
      else
        chk (512 : Int32) r7 <|
        chk (512 : Int32) r7 <|
        chk (512 : Int32) r7 <|
        some ((gA (sA ob 5 r7 ((gA ob 5 r7) - (1 : Int32))) 5 r7), (sA ob 5 r7 ((gA ob 5 r7) - (1 : Int32))))
set_option maxRecDepth 65536 in
set_option maxHeartbeats 4000000 in
theorem X_drop_p {C : Ctx} {top : Nat} {a : Nat} {H : List (Nat × Nat × Rec)} {res : Int32 × Rec} (ob : Rec) (i1 : Int32) (i2 : Int32) (i3 : Int32) (hf : X_drop ob i1 i2 i3 = some res) : Runs C B24 0 0 0 [vr a, vi i1, vi i2, vi i3, vn] [] (top, (a, 9, ob) :: H) (Ans (some (.int res.1)) (top, (a, 9, res.2) :: H)) := by
  delta X_drop at hf
  refine Runs.aloadN d24_0 rfl <| Runs.iloadN d24_1 rfl <| Runs.iloadN d24_2 rfl <| ?_
  refine bind_el hf fun r1 hg2 hf => ?_
  refine Runs.callP (N := B4) (W := 0) (as := [.int i1, .int i2]) (S' := []) d24_3 w44 w45 w46 rfl cw4 ar4 rk24_4_0 (by decide) rfl rfl (X_exists_pay hg2) <| ans1 <| ?_
  refine ite_el hf (fun hc3 hf => ?_) (fun hc3 hf => ?_)
  · refine Runs.ifY (pc' := 17) d24_6 (teq hc3).1 (by decide) <| ?_
    obtain rfl := Option.some.inj hf
    exact Runs.iconst d24_17 ci_m1 <| Runs.retI d24_18 rfl ⟨by decide, by decide⟩ ⟨rfl, rfl⟩
  · refine Runs.ifN d24_6 (feq hc3).1 <| ?_
    refine Runs.aloadN d24_9 rfl <| Runs.iloadN d24_10 rfl <| ?_
    refine bind_el hf fun r4 hg5 hf => ?_
    refine Runs.callP (N := B7) (W := 0) (as := [.int i3]) (S' := []) d24_11 w58 w59 w60 rfl cw7 ar7 rk24_7_0 (by decide) rfl rfl (X_validProc_pay hg5) <| ans1 <| ?_
    refine ite_el hf (fun hc6 hf => ?_) (fun hc6 hf => ?_)
    · refine Runs.ifN d24_14 (teq hc6).2 <| ?_
      obtain rfl := Option.some.inj hf
      exact Runs.iconst d24_17 ci_m1 <| Runs.retI d24_18 rfl ⟨by decide, by decide⟩ ⟨rfl, rfl⟩
    · refine Runs.ifY (pc' := 19) d24_14 (feq hc6).2 (by decide) <| ?_
      refine Runs.aloadN d24_19 rfl <| Runs.iloadN d24_20 rfl <| Runs.iloadN d24_21 rfl <| Runs.iloadN d24_22 rfl <| ?_
      refine bind_el hf fun r7 hg8 hf => ?_
      refine Runs.callP (N := B18) (W := 0) (as := [.int i1, .int i2, .int i3]) (S' := []) d24_23 w109 w110 w111 rfl cw18 ar18 rk24_18_0 (by decide) rfl rfl (X_copyIndex_pay hg8) <| ans1 <| Runs.istore (P' := [vr a, vi i1, vi i2, vi i3, vi r7]) d24_26 (by decide) rfl <| Runs.aloadN d24_28 rfl <| Runs.getA d24_29 fA_5 w21 (by decide) <| Runs.iload d24_32 rfl <| ?_
      refine chk_el hf fun hi9 hf => ?_
      refine Runs.ialoadA d24_34 fA_5 (by decide) hi9 <| ?_
      refine ite_el hf (fun hc10 hf => ?_) (fun hc10 hf => ?_)
      · refine Runs.ifN d24_35 (teq hc10).2 <| ?_
        obtain rfl := Option.some.inj hf
        exact Runs.bipush d24_38 cb_m4 <| Runs.retI d24_40 rfl ⟨by decide, by decide⟩ ⟨rfl, rfl⟩
      · refine Runs.ifY (pc' := 41) d24_35 (feq hc10).2 (by decide) <| ?_
        refine Runs.aloadN d24_41 rfl <| Runs.getA d24_42 fA_5 w21 (by decide) <| Runs.iload d24_45 rfl <| Runs.aloadN d24_47 rfl <| Runs.getA d24_48 fA_5 w21 (by decide) <| Runs.iload d24_51 rfl <| ?_
        refine chk_el hf fun hi11 hf => ?_
        refine Runs.ialoadA d24_53 fA_5 (by decide) hi11 <| Runs.iconst d24_54 ci_1 <| Runs.isub d24_55 <| ?_
        refine chk_el hf fun hi12 hf => ?_
        refine Runs.iastoreA d24_56 fA_5 (by decide) hi12 <| Runs.aloadN d24_57 rfl <| Runs.getA d24_58 fA_5 w21 (by decide) <| Runs.iload d24_61 rfl <| ?_
        refine chk_el hf fun hi13 hf => ?_
        obtain rfl := Option.some.inj hf
        exact Runs.ialoadA d24_63 fA_5 (by decide) hi13 <| Runs.retI d24_64 rfl ⟨by decide, by decide⟩ ⟨rfl, rfl⟩
theorem X_drop_pay {C : Ctx} {top : Nat} {a : Nat} {H : List (Nat × Nat × Rec)} {res : Int32 × Rec} {ob : Rec} {i1 : Int32} {i2 : Int32} {i3 : Int32} (hf : X_drop ob i1 i2 i3 = some res) : Pays C B24 [.ref a, .int i1, .int i2, .int i3] (top, (a, 9, ob) :: H) (Ans (some (.int res.1)) (top, (a, 9, res.2) :: H)) :=
  Pays.of pnK (Nat.le_of_ble_eq_true rfl) (P := [vr a, vi i1, vi i2, vi i3, vn]) 1 rfl (X_drop_p ob i1 i2 i3 hf)
def X_retransmit (ob : Rec) (i1 : Int32) (i2 : Int32) (i3 : Int32) (i4 : Int32) : Option (Int32 × Rec) :=
  (X_validProc ob i1).bind fun r1 =>
  if r1 = (0 : Int32) then
    some ((-1 : Int32), ob)
  else
    (X_validProc ob i2).bind fun r4 =>
    if r4 = (0 : Int32) then
      some ((-1 : Int32), ob)
    else
      if i1 = i2 then
        some ((-1 : Int32), ob)
      else
        (X_exists ob i3 i4).bind fun r8 =>
        if r8 = (0 : Int32) then
          some ((-1 : Int32), ob)
        else
          chk (8 : Int32) i1 <|
          if (gA ob 1 i1) = (0 : Int32) then
            chk (8 : Int32) i2 <|
            if (gA ob 1 i2) = (0 : Int32) then
              (X_stateIndex ob i1 i3 i4).bind fun r15 =>
              chk (512 : Int32) r15 <|
              if (gA ob 3 r15) = (2 : Int32) then
                (X_copyIndex ob i3 i4 i2).bind fun r19 =>
                chk (512 : Int32) r19 <|
                if (gA ob 5 r19) < (3 : Int32) then
                  chk (512 : Int32) r19 <|
                  chk (512 : Int32) r19 <|
                  some ((0 : Int32), (sA ob 5 r19 ((gA ob 5 r19) + (1 : Int32))))
                else
                  some ((-3 : Int32), ob)
              else
                some ((-6 : Int32), ob)
            else
              some ((-2 : Int32), ob)
          else
            some ((-2 : Int32), ob)
set_option maxRecDepth 65536 in
set_option maxHeartbeats 4000000 in
theorem X_retransmit_p {C : Ctx} {top : Nat} {a : Nat} {H : List (Nat × Nat × Rec)} {res : Int32 × Rec} (ob : Rec) (i1 : Int32) (i2 : Int32) (i3 : Int32) (i4 : Int32) (hf : X_retransmit ob i1 i2 i3 i4 = some res) : Runs C B25 0 0 0 [vr a, vi i1, vi i2, vi i3, vi i4, vn, vn] [] (top, (a, 9, ob) :: H) (Ans (some (.int res.1)) (top, (a, 9, res.2) :: H)) := by
  delta X_retransmit at hf
  refine Runs.aloadN d25_0 rfl <| Runs.iloadN d25_1 rfl <| ?_
  refine bind_el hf fun r1 hg2 hf => ?_
  refine Runs.callP (N := B7) (W := 0) (as := [.int i1]) (S' := []) d25_2 w58 w59 w60 rfl cw7 ar7 rk25_7_0 (by decide) rfl rfl (X_validProc_pay hg2) <| ans1 <| ?_
  refine ite_el hf (fun hc3 hf => ?_) (fun hc3 hf => ?_)
  · refine Runs.ifY (pc' := 31) d25_5 (teq hc3).1 (by decide) <| ?_
    obtain rfl := Option.some.inj hf
    exact Runs.iconst d25_31 ci_m1 <| Runs.retI d25_32 rfl ⟨by decide, by decide⟩ ⟨rfl, rfl⟩
  · refine Runs.ifN d25_5 (feq hc3).1 <| ?_
    refine Runs.aloadN d25_8 rfl <| Runs.iloadN d25_9 rfl <| ?_
    refine bind_el hf fun r4 hg5 hf => ?_
    refine Runs.callP (N := B7) (W := 0) (as := [.int i2]) (S' := []) d25_10 w58 w59 w60 rfl cw7 ar7 rk25_7_0 (by decide) rfl rfl (X_validProc_pay hg5) <| ans1 <| ?_
    refine ite_el hf (fun hc6 hf => ?_) (fun hc6 hf => ?_)
    · refine Runs.ifY (pc' := 31) d25_13 (teq hc6).1 (by decide) <| ?_
      obtain rfl := Option.some.inj hf
      exact Runs.iconst d25_31 ci_m1 <| Runs.retI d25_32 rfl ⟨by decide, by decide⟩ ⟨rfl, rfl⟩
    · refine Runs.ifN d25_13 (feq hc6).1 <| ?_
      refine Runs.iloadN d25_16 rfl <| Runs.iloadN d25_17 rfl <| ?_
      refine ite_el hf (fun hc7 hf => ?_) (fun hc7 hf => ?_)
      · refine Runs.icY (pc' := 31) d25_18 (teq hc7).1 (by decide) <| ?_
        obtain rfl := Option.some.inj hf
        exact Runs.iconst d25_31 ci_m1 <| Runs.retI d25_32 rfl ⟨by decide, by decide⟩ ⟨rfl, rfl⟩
      · refine Runs.icN d25_18 (feq hc7).1 <| ?_
        refine Runs.aloadN d25_21 rfl <| Runs.iloadN d25_22 rfl <| Runs.iload d25_23 rfl <| ?_
        refine bind_el hf fun r8 hg9 hf => ?_
        refine Runs.callP (N := B4) (W := 0) (as := [.int i3, .int i4]) (S' := []) d25_25 w44 w45 w46 rfl cw4 ar4 rk25_4_0 (by decide) rfl rfl (X_exists_pay hg9) <| ans1 <| ?_
        refine ite_el hf (fun hc10 hf => ?_) (fun hc10 hf => ?_)
        · refine Runs.ifN d25_28 (teq hc10).2 <| ?_
          obtain rfl := Option.some.inj hf
          exact Runs.iconst d25_31 ci_m1 <| Runs.retI d25_32 rfl ⟨by decide, by decide⟩ ⟨rfl, rfl⟩
        · refine Runs.ifY (pc' := 33) d25_28 (feq hc10).2 (by decide) <| ?_
          refine Runs.aloadN d25_33 rfl <| Runs.getA d25_34 fA_1 w13 (by decide) <| Runs.iloadN d25_37 rfl <| ?_
          refine chk_el hf fun hi11 hf => ?_
          refine Runs.baloadA d25_38 fA_1 (by decide) hi11 <| ?_
          refine ite_el hf (fun hc12 hf => ?_) (fun hc12 hf => ?_)
          · refine Runs.ifN d25_39 (teq hc12).2 <| ?_
            refine Runs.aloadN d25_42 rfl <| Runs.getA d25_43 fA_1 w13 (by decide) <| Runs.iloadN d25_46 rfl <| ?_
            refine chk_el hf fun hi13 hf => ?_
            refine Runs.baloadA d25_47 fA_1 (by decide) hi13 <| ?_
            refine ite_el hf (fun hc14 hf => ?_) (fun hc14 hf => ?_)
            · refine Runs.ifY (pc' := 54) d25_48 (teq hc14).1 (by decide) <| ?_
              refine Runs.aloadN d25_54 rfl <| Runs.iloadN d25_55 rfl <| Runs.iloadN d25_56 rfl <| Runs.iload d25_57 rfl <| ?_
              refine bind_el hf fun r15 hg16 hf => ?_
              refine Runs.callP (N := B17) (W := 0) (as := [.int i1, .int i3, .int i4]) (S' := []) d25_59 w105 w106 w107 rfl cw17 ar17 rk25_17_0 (by decide) rfl rfl (X_stateIndex_pay hg16) <| ans1 <| Runs.istore (P' := [vr a, vi i1, vi i2, vi i3, vi i4, vi r15, vn]) d25_62 (by decide) rfl <| Runs.aloadN d25_64 rfl <| Runs.getA d25_65 fA_3 w17 (by decide) <| Runs.iload d25_68 rfl <| ?_
              refine chk_el hf fun hi17 hf => ?_
              refine Runs.ialoadA d25_70 fA_3 (by decide) hi17 <| Runs.iconst d25_71 ci_2 <| ?_
              refine ite_el hf (fun hc18 hf => ?_) (fun hc18 hf => ?_)
              · refine Runs.icY (pc' := 78) d25_72 (teq hc18).1 (by decide) <| ?_
                refine Runs.aloadN d25_78 rfl <| Runs.iloadN d25_79 rfl <| Runs.iload d25_80 rfl <| Runs.iloadN d25_82 rfl <| ?_
                refine bind_el hf fun r19 hg20 hf => ?_
                refine Runs.callP (N := B18) (W := 0) (as := [.int i3, .int i4, .int i2]) (S' := []) d25_83 w109 w110 w111 rfl cw18 ar18 rk25_18_0 (by decide) rfl rfl (X_copyIndex_pay hg20) <| ans1 <| Runs.istore (P' := [vr a, vi i1, vi i2, vi i3, vi i4, vi r15, vi r19]) d25_86 (by decide) rfl <| Runs.aloadN d25_88 rfl <| Runs.getA d25_89 fA_5 w21 (by decide) <| Runs.iload d25_92 rfl <| ?_
                refine chk_el hf fun hi21 hf => ?_
                refine Runs.ialoadA d25_94 fA_5 (by decide) hi21 <| Runs.iconst d25_95 ci_3 <| ?_
                refine ite_el hf (fun hc22 hf => ?_) (fun hc22 hf => ?_)
                · refine Runs.icY (pc' := 102) d25_96 (tlt hc22).1 (by decide) <| ?_
                  refine Runs.aloadN d25_102 rfl <| Runs.getA d25_103 fA_5 w21 (by decide) <| Runs.iload d25_106 rfl <| Runs.aloadN d25_108 rfl <| Runs.getA d25_109 fA_5 w21 (by decide) <| Runs.iload d25_112 rfl <| ?_
                  refine chk_el hf fun hi23 hf => ?_
                  refine Runs.ialoadA d25_114 fA_5 (by decide) hi23 <| Runs.iconst d25_115 ci_1 <| Runs.iadd d25_116 <| ?_
                  refine chk_el hf fun hi24 hf => ?_
                  obtain rfl := Option.some.inj hf
                  exact Runs.iastoreA d25_117 fA_5 (by decide) hi24 <| Runs.iconst d25_118 ci_0 <| Runs.retI d25_119 rfl ⟨by decide, by decide⟩ ⟨rfl, rfl⟩
                · refine Runs.icN d25_96 (flt hc22).1 <| ?_
                  obtain rfl := Option.some.inj hf
                  exact Runs.bipush d25_99 cb_m3 <| Runs.retI d25_101 rfl ⟨by decide, by decide⟩ ⟨rfl, rfl⟩
              · refine Runs.icN d25_72 (feq hc18).1 <| ?_
                obtain rfl := Option.some.inj hf
                exact Runs.bipush d25_75 cb_m6 <| Runs.retI d25_77 rfl ⟨by decide, by decide⟩ ⟨rfl, rfl⟩
            · refine Runs.ifN d25_48 (feq hc14).1 <| ?_
              obtain rfl := Option.some.inj hf
              exact Runs.bipush d25_51 cb_m2 <| Runs.retI d25_53 rfl ⟨by decide, by decide⟩ ⟨rfl, rfl⟩
          · refine Runs.ifY (pc' := 51) d25_39 (feq hc12).2 (by decide) <| ?_
            obtain rfl := Option.some.inj hf
            exact Runs.bipush d25_51 cb_m2 <| Runs.retI d25_53 rfl ⟨by decide, by decide⟩ ⟨rfl, rfl⟩
theorem X_retransmit_pay {C : Ctx} {top : Nat} {a : Nat} {H : List (Nat × Nat × Rec)} {res : Int32 × Rec} {ob : Rec} {i1 : Int32} {i2 : Int32} {i3 : Int32} {i4 : Int32} (hf : X_retransmit ob i1 i2 i3 i4 = some res) : Pays C B25 [.ref a, .int i1, .int i2, .int i3, .int i4] (top, (a, 9, ob) :: H) (Ans (some (.int res.1)) (top, (a, 9, res.2) :: H)) :=
  Pays.of pnK (Nat.le_of_ble_eq_true rfl) (P := [vr a, vi i1, vi i2, vi i3, vi i4, vn, vn]) 2 rfl (X_retransmit_p ob i1 i2 i3 i4 hf)
def X_gossip_w57 (NF : Nat) (k46 : Rec → Int32 → Int32 → Int32 → Option (Int32 × Rec)) (k57 : Rec → Int32 → Int32 → Int32 → Int32 → Option (Int32 × Rec)) (ob : Rec) (i1 : Int32) (i2 : Int32) (i3 : Int32) (i4 : Int32) : Option (Int32 × Rec) :=
  if i4 < (gI ob 0) then
    chk (512 : Int32) (((i1 * (64 : Int32)) + (i3 * (8 : Int32))) + i4) <|
    chk (512 : Int32) (((i2 * (64 : Int32)) + (i3 * (8 : Int32))) + i4) <|
    if (gA ob 6 (((i2 * (64 : Int32)) + (i3 * (8 : Int32))) + i4)) < (gA ob 6 (((i1 * (64 : Int32)) + (i3 * (8 : Int32))) + i4)) then
      chk (512 : Int32) (((i1 * (64 : Int32)) + (i3 * (8 : Int32))) + i4) <|
      chk (512 : Int32) (((i2 * (64 : Int32)) + (i3 * (8 : Int32))) + i4) <|
      k57 (sA ob 6 (((i2 * (64 : Int32)) + (i3 * (8 : Int32))) + i4) (gA ob 6 (((i1 * (64 : Int32)) + (i3 * (8 : Int32))) + i4))) i1 i2 i3 (i4 + (1 : Int32))
    else
      k57 ob i1 i2 i3 (i4 + (1 : Int32))
  else
    k46 ob i1 i2 (i3 + (1 : Int32))
def X_gossip_l57 (NF : Nat) (k46 : Rec → Int32 → Int32 → Int32 → Option (Int32 × Rec)) : Nat → Rec → Int32 → Int32 → Int32 → Int32 → Option (Int32 × Rec)
  | 0, _, _, _, _, _ => none
  | n + 1, ob, i1, i2, i3, i4 => X_gossip_w57 NF k46 (X_gossip_l57 NF k46 n) ob i1 i2 i3 i4
set_option maxRecDepth 65536 in
set_option maxHeartbeats 4000000 in
theorem X_gossip_w57_p {C : Ctx} {top : Nat} {a : Nat} {H : List (Nat × Nat × Rec)} {res : Int32 × Rec} {NF : Nat} (k46 : Rec → Int32 → Int32 → Int32 → Option (Int32 × Rec)) (hk46 : ∀ (ob : Rec) (i1 : Int32) (i2 : Int32) (i3 : Int32), k46 ob i1 i2 i3 = some res → Runs C B26 0 0 46 [vr a, vi i1, vi i2, vi i3, vn, vn, vn] [] (top, (a, 9, ob) :: H) (Ans (some (.int res.1)) (top, (a, 9, res.2) :: H))) (k57 : Rec → Int32 → Int32 → Int32 → Int32 → Option (Int32 × Rec)) (hk57 : ∀ (ob : Rec) (i1 : Int32) (i2 : Int32) (i3 : Int32) (i4 : Int32), k57 ob i1 i2 i3 i4 = some res → Runs C B26 0 0 57 [vr a, vi i1, vi i2, vi i3, vi i4, vn, vn] [] (top, (a, 9, ob) :: H) (Ans (some (.int res.1)) (top, (a, 9, res.2) :: H))) (ob : Rec) (i1 : Int32) (i2 : Int32) (i3 : Int32) (i4 : Int32) (hf : X_gossip_w57 NF k46 k57 ob i1 i2 i3 i4 = some res) : Runs C B26 0 0 57 [vr a, vi i1, vi i2, vi i3, vi i4, vn, vn] [] (top, (a, 9, ob) :: H) (Ans (some (.int res.1)) (top, (a, 9, res.2) :: H)) := by
  delta X_gossip_w57 at hf
  refine Runs.iload d26_57 rfl <| Runs.aloadN d26_59 rfl <| Runs.getI d26_60 w29 fS_0 <| ?_
  refine ite_el hf (fun hc2 hf => ?_) (fun hc2 hf => ?_)
  · refine Runs.icN d26_63 (tlt hc2).2.1 <| ?_
    refine Runs.iloadN d26_66 rfl <| Runs.bipush d26_67 cb_64 <| Runs.imul d26_69 <| Runs.iloadN d26_70 rfl <| Runs.bipush d26_71 cb_8 <| Runs.imul d26_73 <| Runs.iadd d26_74 <| Runs.iload d26_75 rfl <| Runs.iadd d26_77 <| Runs.istore (P' := [vr a, vi i1, vi i2, vi i3, vi i4, vi (((i2 * (64 : Int32)) + (i3 * (8 : Int32))) + i4), vn]) d26_78 (by decide) rfl <| Runs.iloadN d26_80 rfl <| Runs.bipush d26_81 cb_64 <| ?_
    refine Runs.imul d26_83 <| Runs.iloadN d26_84 rfl <| Runs.bipush d26_85 cb_8 <| Runs.imul d26_87 <| Runs.iadd d26_88 <| Runs.iload d26_89 rfl <| Runs.iadd d26_91 <| Runs.istore (P' := [vr a, vi i1, vi i2, vi i3, vi i4, vi (((i2 * (64 : Int32)) + (i3 * (8 : Int32))) + i4), vi (((i1 * (64 : Int32)) + (i3 * (8 : Int32))) + i4)]) d26_92 (by decide) rfl <| Runs.aloadN d26_94 rfl <| Runs.getA d26_95 fA_6 w23 (by decide) <| Runs.iload d26_98 rfl <| ?_
    refine chk_el hf fun hi3 hf => ?_
    refine Runs.ialoadA d26_100 fA_6 (by decide) hi3 <| Runs.aloadN d26_101 rfl <| Runs.getA d26_102 fA_6 w23 (by decide) <| Runs.iload d26_105 rfl <| ?_
    refine chk_el hf fun hi4 hf => ?_
    refine Runs.ialoadA d26_107 fA_6 (by decide) hi4 <| ?_
    refine ite_el hf (fun hc5 hf => ?_) (fun hc5 hf => ?_)
    · refine Runs.icN d26_108 (tlt hc5).2.2.2 <| ?_
      refine Runs.aloadN d26_111 rfl <| Runs.getA d26_112 fA_6 w23 (by decide) <| Runs.iload d26_115 rfl <| Runs.aloadN d26_117 rfl <| Runs.getA d26_118 fA_6 w23 (by decide) <| Runs.iload d26_121 rfl <| ?_
      refine chk_el hf fun hi6 hf => ?_
      refine Runs.ialoadA d26_123 fA_6 (by decide) hi6 <| ?_
      refine chk_el hf fun hi7 hf => ?_
      exact Runs.iastoreA d26_124 fA_6 (by decide) hi7 <| Runs.iinc (P' := [vr a, vi i1, vi i2, vi i3, vi (i4 + (1 : Int32)), vi (((i2 * (64 : Int32)) + (i3 * (8 : Int32))) + i4), vi (((i1 * (64 : Int32)) + (i3 * (8 : Int32))) + i4)]) d26_125 ci_1 rfl (by decide) rfl <| Runs.goto (pc' := 57) d26_128 (by decide) <| Runs.forget [true, true, true, true, true, false, false] rfl <| hk57 (sA ob 6 (((i2 * (64 : Int32)) + (i3 * (8 : Int32))) + i4) (gA ob 6 (((i1 * (64 : Int32)) + (i3 * (8 : Int32))) + i4))) i1 i2 i3 (i4 + (1 : Int32)) hf
    · refine Runs.icY (pc' := 125) d26_108 (flt hc5).2.2.2 (by decide) <| ?_
      exact Runs.iinc (P' := [vr a, vi i1, vi i2, vi i3, vi (i4 + (1 : Int32)), vi (((i2 * (64 : Int32)) + (i3 * (8 : Int32))) + i4), vi (((i1 * (64 : Int32)) + (i3 * (8 : Int32))) + i4)]) d26_125 ci_1 rfl (by decide) rfl <| Runs.goto (pc' := 57) d26_128 (by decide) <| Runs.forget [true, true, true, true, true, false, false] rfl <| hk57 ob i1 i2 i3 (i4 + (1 : Int32)) hf
  · refine Runs.icY (pc' := 131) d26_63 (flt hc2).2.1 (by decide) <| ?_
    exact Runs.iinc (P' := [vr a, vi i1, vi i2, vi (i3 + (1 : Int32)), vi i4, vn, vn]) d26_131 ci_1 rfl (by decide) rfl <| Runs.goto (pc' := 46) d26_134 (by decide) <| Runs.forget [true, true, true, true, false, false, false] rfl <| hk46 ob i1 i2 (i3 + (1 : Int32)) hf
theorem X_gossip_l57_p {C : Ctx} {top : Nat} {a : Nat} {H : List (Nat × Nat × Rec)} {res : Int32 × Rec} {NF : Nat} (k46 : Rec → Int32 → Int32 → Int32 → Option (Int32 × Rec)) (hk46 : ∀ (ob : Rec) (i1 : Int32) (i2 : Int32) (i3 : Int32), k46 ob i1 i2 i3 = some res → Runs C B26 0 0 46 [vr a, vi i1, vi i2, vi i3, vn, vn, vn] [] (top, (a, 9, ob) :: H) (Ans (some (.int res.1)) (top, (a, 9, res.2) :: H))) (n : Nat) (ob : Rec) (i1 : Int32) (i2 : Int32) (i3 : Int32) (i4 : Int32) (hf : X_gossip_l57 NF k46 n ob i1 i2 i3 i4 = some res) : Runs C B26 0 0 57 [vr a, vi i1, vi i2, vi i3, vi i4, vn, vn] [] (top, (a, 9, ob) :: H) (Ans (some (.int res.1)) (top, (a, 9, res.2) :: H)) := by
  induction n generalizing ob i1 i2 i3 i4 with
  | zero => cases (show (none : Option (Int32 × Rec)) = some res from hf)
  | succ n ih => exact X_gossip_w57_p k46 hk46 (X_gossip_l57 NF k46 n) (fun ob i1 i2 i3 i4 h => ih _ _ _ _ _ h) ob i1 i2 i3 i4 hf
def X_gossip_w46 (NF : Nat) (k46 : Rec → Int32 → Int32 → Int32 → Option (Int32 × Rec)) (ob : Rec) (i1 : Int32) (i2 : Int32) (i3 : Int32) : Option (Int32 × Rec) :=
  if i3 < (gI ob 0) then
    X_gossip_l57 NF k46 NF ob i1 i2 i3 (0 : Int32)
  else
    some ((0 : Int32), ob)
def X_gossip_l46 (NF : Nat) : Nat → Rec → Int32 → Int32 → Int32 → Option (Int32 × Rec)
  | 0, _, _, _, _ => none
  | n + 1, ob, i1, i2, i3 => X_gossip_w46 NF (X_gossip_l46 NF n) ob i1 i2 i3
set_option maxRecDepth 65536 in
set_option maxHeartbeats 4000000 in
theorem X_gossip_w46_p {C : Ctx} {top : Nat} {a : Nat} {H : List (Nat × Nat × Rec)} {res : Int32 × Rec} {NF : Nat} (k46 : Rec → Int32 → Int32 → Int32 → Option (Int32 × Rec)) (hk46 : ∀ (ob : Rec) (i1 : Int32) (i2 : Int32) (i3 : Int32), k46 ob i1 i2 i3 = some res → Runs C B26 0 0 46 [vr a, vi i1, vi i2, vi i3, vn, vn, vn] [] (top, (a, 9, ob) :: H) (Ans (some (.int res.1)) (top, (a, 9, res.2) :: H))) (ob : Rec) (i1 : Int32) (i2 : Int32) (i3 : Int32) (hf : X_gossip_w46 NF k46 ob i1 i2 i3 = some res) : Runs C B26 0 0 46 [vr a, vi i1, vi i2, vi i3, vn, vn, vn] [] (top, (a, 9, ob) :: H) (Ans (some (.int res.1)) (top, (a, 9, res.2) :: H)) := by
  delta X_gossip_w46 at hf
  refine Runs.iloadN d26_46 rfl <| Runs.aloadN d26_47 rfl <| Runs.getI d26_48 w29 fS_0 <| ?_
  refine ite_el hf (fun hc1 hf => ?_) (fun hc1 hf => ?_)
  · refine Runs.icN d26_51 (tlt hc1).2.1 <| ?_
    exact Runs.iconst d26_54 ci_0 <| Runs.istore (P' := [vr a, vi i1, vi i2, vi i3, vi (0 : Int32), vn, vn]) d26_55 (by decide) rfl <| X_gossip_l57_p k46 hk46 NF ob i1 i2 i3 (0 : Int32) hf
  · refine Runs.icY (pc' := 137) d26_51 (flt hc1).2.1 (by decide) <| ?_
    obtain rfl := Option.some.inj hf
    exact Runs.iconst d26_137 ci_0 <| Runs.retI d26_138 rfl ⟨by decide, by decide⟩ ⟨rfl, rfl⟩
theorem X_gossip_l46_p {C : Ctx} {top : Nat} {a : Nat} {H : List (Nat × Nat × Rec)} {res : Int32 × Rec} {NF : Nat} (n : Nat) (ob : Rec) (i1 : Int32) (i2 : Int32) (i3 : Int32) (hf : X_gossip_l46 NF n ob i1 i2 i3 = some res) : Runs C B26 0 0 46 [vr a, vi i1, vi i2, vi i3, vn, vn, vn] [] (top, (a, 9, ob) :: H) (Ans (some (.int res.1)) (top, (a, 9, res.2) :: H)) := by
  induction n generalizing ob i1 i2 i3 with
  | zero => cases (show (none : Option (Int32 × Rec)) = some res from hf)
  | succ n ih => exact X_gossip_w46_p (X_gossip_l46 NF n) (fun ob i1 i2 i3 h => ih _ _ _ _ h) ob i1 i2 i3 hf
def X_gossip (NF : Nat) (ob : Rec) (i1 : Int32) (i2 : Int32) : Option (Int32 × Rec) :=
  (X_validProc ob i1).bind fun r8 =>
  if r8 = (0 : Int32) then
    some ((-1 : Int32), ob)
  else
    (X_validProc ob i2).bind fun r11 =>
    if r11 = (0 : Int32) then
      some ((-1 : Int32), ob)
    else
      if i1 = i2 then
        some ((-1 : Int32), ob)
      else
        chk (8 : Int32) i1 <|
        if (gA ob 1 i1) = (0 : Int32) then
          chk (8 : Int32) i2 <|
          if (gA ob 1 i2) = (0 : Int32) then
            X_gossip_l46 NF NF ob i1 i2 (0 : Int32)
          else
            some ((-2 : Int32), ob)
        else
          some ((-2 : Int32), ob)
set_option maxRecDepth 65536 in
set_option maxHeartbeats 4000000 in
theorem X_gossip_p {C : Ctx} {top : Nat} {a : Nat} {H : List (Nat × Nat × Rec)} {res : Int32 × Rec} {NF : Nat} (ob : Rec) (i1 : Int32) (i2 : Int32) (hf : X_gossip NF ob i1 i2 = some res) : Runs C B26 0 0 0 [vr a, vi i1, vi i2, vn, vn, vn, vn] [] (top, (a, 9, ob) :: H) (Ans (some (.int res.1)) (top, (a, 9, res.2) :: H)) := by
  delta X_gossip at hf
  refine Runs.aloadN d26_0 rfl <| Runs.iloadN d26_1 rfl <| ?_
  refine bind_el hf fun r8 hg9 hf => ?_
  refine Runs.callP (N := B7) (W := 0) (as := [.int i1]) (S' := []) d26_2 w58 w59 w60 rfl cw7 ar7 rk26_7_0 (by decide) rfl rfl (X_validProc_pay hg9) <| ans1 <| ?_
  refine ite_el hf (fun hc10 hf => ?_) (fun hc10 hf => ?_)
  · refine Runs.ifY (pc' := 21) d26_5 (teq hc10).1 (by decide) <| ?_
    obtain rfl := Option.some.inj hf
    exact Runs.iconst d26_21 ci_m1 <| Runs.retI d26_22 rfl ⟨by decide, by decide⟩ ⟨rfl, rfl⟩
  · refine Runs.ifN d26_5 (feq hc10).1 <| ?_
    refine Runs.aloadN d26_8 rfl <| Runs.iloadN d26_9 rfl <| ?_
    refine bind_el hf fun r11 hg12 hf => ?_
    refine Runs.callP (N := B7) (W := 0) (as := [.int i2]) (S' := []) d26_10 w58 w59 w60 rfl cw7 ar7 rk26_7_0 (by decide) rfl rfl (X_validProc_pay hg12) <| ans1 <| ?_
    refine ite_el hf (fun hc13 hf => ?_) (fun hc13 hf => ?_)
    · refine Runs.ifY (pc' := 21) d26_13 (teq hc13).1 (by decide) <| ?_
      obtain rfl := Option.some.inj hf
      exact Runs.iconst d26_21 ci_m1 <| Runs.retI d26_22 rfl ⟨by decide, by decide⟩ ⟨rfl, rfl⟩
    · refine Runs.ifN d26_13 (feq hc13).1 <| ?_
      refine Runs.iloadN d26_16 rfl <| Runs.iloadN d26_17 rfl <| ?_
      refine ite_el hf (fun hc14 hf => ?_) (fun hc14 hf => ?_)
      · refine Runs.icN d26_18 (teq hc14).2 <| ?_
        obtain rfl := Option.some.inj hf
        exact Runs.iconst d26_21 ci_m1 <| Runs.retI d26_22 rfl ⟨by decide, by decide⟩ ⟨rfl, rfl⟩
      · refine Runs.icY (pc' := 23) d26_18 (feq hc14).2 (by decide) <| ?_
        refine Runs.aloadN d26_23 rfl <| Runs.getA d26_24 fA_1 w13 (by decide) <| Runs.iloadN d26_27 rfl <| ?_
        refine chk_el hf fun hi15 hf => ?_
        refine Runs.baloadA d26_28 fA_1 (by decide) hi15 <| ?_
        refine ite_el hf (fun hc16 hf => ?_) (fun hc16 hf => ?_)
        · refine Runs.ifN d26_29 (teq hc16).2 <| ?_
          refine Runs.aloadN d26_32 rfl <| Runs.getA d26_33 fA_1 w13 (by decide) <| Runs.iloadN d26_36 rfl <| ?_
          refine chk_el hf fun hi17 hf => ?_
          refine Runs.baloadA d26_37 fA_1 (by decide) hi17 <| ?_
          refine ite_el hf (fun hc18 hf => ?_) (fun hc18 hf => ?_)
          · refine Runs.ifY (pc' := 44) d26_38 (teq hc18).1 (by decide) <| ?_
            exact Runs.iconst d26_44 ci_0 <| Runs.istoreN (P' := [vr a, vi i1, vi i2, vi (0 : Int32), vn, vn, vn]) d26_45 (by decide) rfl <| X_gossip_l46_p NF ob i1 i2 (0 : Int32) hf
          · refine Runs.ifN d26_38 (feq hc18).1 <| ?_
            obtain rfl := Option.some.inj hf
            exact Runs.bipush d26_41 cb_m2 <| Runs.retI d26_43 rfl ⟨by decide, by decide⟩ ⟨rfl, rfl⟩
        · refine Runs.ifY (pc' := 41) d26_29 (feq hc16).2 (by decide) <| ?_
          obtain rfl := Option.some.inj hf
          exact Runs.bipush d26_41 cb_m2 <| Runs.retI d26_43 rfl ⟨by decide, by decide⟩ ⟨rfl, rfl⟩
theorem X_gossip_pay {C : Ctx} {top : Nat} {a : Nat} {H : List (Nat × Nat × Rec)} {res : Int32 × Rec} {NF : Nat} {ob : Rec} {i1 : Int32} {i2 : Int32} (hf : X_gossip NF ob i1 i2 = some res) : Pays C B26 [.ref a, .int i1, .int i2] (top, (a, 9, ob) :: H) (Ans (some (.int res.1)) (top, (a, 9, res.2) :: H)) :=
  Pays.of pnK (Nat.le_of_ble_eq_true rfl) (P := [vr a, vi i1, vi i2, vn, vn, vn, vn]) 4 rfl (X_gossip_p ob i1 i2 hf)
def X_isStable_w3 (NF : Nat) (ob : Rec) (k3 : Int32 → Int32 → Int32 → Int32 → Option (Int32)) (i1 : Int32) (i2 : Int32) (i3 : Int32) (i4 : Int32) : Option (Int32) :=
  if i4 < (gI ob 0) then
    chk (8 : Int32) i4 <|
    if (gA ob 1 i4) = (0 : Int32) then
      (X_knownIndex ob i1 i4 i2).bind fun r4 =>
      chk (512 : Int32) r4 <|
      if (gA ob 6 r4) < i3 then
        some (0 : Int32)
      else
        k3 i1 i2 i3 (i4 + (1 : Int32))
    else
      k3 i1 i2 i3 (i4 + (1 : Int32))
  else
    some (1 : Int32)
def X_isStable_l3 (NF : Nat) (ob : Rec) : Nat → Int32 → Int32 → Int32 → Int32 → Option (Int32)
  | 0, _, _, _, _ => none
  | n + 1, i1, i2, i3, i4 => X_isStable_w3 NF ob (X_isStable_l3 NF ob n) i1 i2 i3 i4
set_option maxRecDepth 65536 in
set_option maxHeartbeats 4000000 in
theorem X_isStable_w3_p {C : Ctx} {top : Nat} {a : Nat} {H : List (Nat × Nat × Rec)} {ob : Rec} {res : Int32} {NF : Nat} (k3 : Int32 → Int32 → Int32 → Int32 → Option (Int32)) (hk3 : ∀ (i1 : Int32) (i2 : Int32) (i3 : Int32) (i4 : Int32), k3 i1 i2 i3 i4 = some res → Runs C B27 0 0 3 [vr a, vi i1, vi i2, vi i3, vi i4, vn] [] (top, (a, 9, ob) :: H) (Ans (some (.int res)) (top, (a, 9, ob) :: H))) (i1 : Int32) (i2 : Int32) (i3 : Int32) (i4 : Int32) (hf : X_isStable_w3 NF ob k3 i1 i2 i3 i4 = some res) : Runs C B27 0 0 3 [vr a, vi i1, vi i2, vi i3, vi i4, vn] [] (top, (a, 9, ob) :: H) (Ans (some (.int res)) (top, (a, 9, ob) :: H)) := by
  delta X_isStable_w3 at hf
  refine Runs.iload d27_3 rfl <| Runs.aloadN d27_5 rfl <| Runs.getI d27_6 w29 fS_0 <| ?_
  refine ite_el hf (fun hc1 hf => ?_) (fun hc1 hf => ?_)
  · refine Runs.icN d27_9 (tlt hc1).2.1 <| ?_
    refine Runs.aloadN d27_12 rfl <| Runs.getA d27_13 fA_1 w13 (by decide) <| Runs.iload d27_16 rfl <| ?_
    refine chk_el hf fun hi2 hf => ?_
    refine Runs.baloadA d27_18 fA_1 (by decide) hi2 <| ?_
    refine ite_el hf (fun hc3 hf => ?_) (fun hc3 hf => ?_)
    · refine Runs.ifN d27_19 (teq hc3).2 <| ?_
      refine Runs.aloadN d27_22 rfl <| Runs.iloadN d27_23 rfl <| Runs.iload d27_24 rfl <| Runs.iloadN d27_26 rfl <| ?_
      refine bind_el hf fun r4 hg5 hf => ?_
      refine Runs.callP (N := B9) (W := 0) (as := [.int i1, .int i4, .int i2]) (S' := []) d27_27 w67 w68 w69 rfl cw9 ar9 rk27_9_0 (by decide) rfl rfl (X_knownIndex_pay hg5) <| ans1 <| Runs.istore (P' := [vr a, vi i1, vi i2, vi i3, vi i4, vi r4]) d27_30 (by decide) rfl <| Runs.aloadN d27_32 rfl <| Runs.getA d27_33 fA_6 w23 (by decide) <| Runs.iload d27_36 rfl <| ?_
      refine chk_el hf fun hi6 hf => ?_
      refine Runs.ialoadA d27_38 fA_6 (by decide) hi6 <| Runs.iloadN d27_39 rfl <| ?_
      refine ite_el hf (fun hc7 hf => ?_) (fun hc7 hf => ?_)
      · refine Runs.icN d27_40 (tlt hc7).2.1 <| ?_
        obtain rfl := Option.some.inj hf
        exact Runs.iconst d27_43 ci_0 <| Runs.retZ (y := (0 : Int32)) d27_44 rfl ⟨by decide, by decide⟩ rfl ⟨rfl, rfl⟩
      · refine Runs.icY (pc' := 45) d27_40 (flt hc7).2.1 (by decide) <| ?_
        exact Runs.iinc (P' := [vr a, vi i1, vi i2, vi i3, vi (i4 + (1 : Int32)), vi r4]) d27_45 ci_1 rfl (by decide) rfl <| Runs.goto (pc' := 3) d27_48 (by decide) <| Runs.forget [true, true, true, true, true, false] rfl <| hk3 i1 i2 i3 (i4 + (1 : Int32)) hf
    · refine Runs.ifY (pc' := 45) d27_19 (feq hc3).2 (by decide) <| ?_
      exact Runs.iinc (P' := [vr a, vi i1, vi i2, vi i3, vi (i4 + (1 : Int32)), vn]) d27_45 ci_1 rfl (by decide) rfl <| Runs.goto (pc' := 3) d27_48 (by decide) <| hk3 i1 i2 i3 (i4 + (1 : Int32)) hf
  · refine Runs.icY (pc' := 51) d27_9 (flt hc1).2.1 (by decide) <| ?_
    obtain rfl := Option.some.inj hf
    exact Runs.iconst d27_51 ci_1 <| Runs.retZ (y := (1 : Int32)) d27_52 rfl ⟨by decide, by decide⟩ rfl ⟨rfl, rfl⟩
theorem X_isStable_l3_p {C : Ctx} {top : Nat} {a : Nat} {H : List (Nat × Nat × Rec)} {ob : Rec} {res : Int32} {NF : Nat} (n : Nat) (i1 : Int32) (i2 : Int32) (i3 : Int32) (i4 : Int32) (hf : X_isStable_l3 NF ob n i1 i2 i3 i4 = some res) : Runs C B27 0 0 3 [vr a, vi i1, vi i2, vi i3, vi i4, vn] [] (top, (a, 9, ob) :: H) (Ans (some (.int res)) (top, (a, 9, ob) :: H)) := by
  induction n generalizing i1 i2 i3 i4 with
  | zero => cases (show (none : Option (Int32)) = some res from hf)
  | succ n ih => exact X_isStable_w3_p (X_isStable_l3 NF ob n) (fun i1 i2 i3 i4 h => ih _ _ _ _ h) i1 i2 i3 i4 hf
def X_isStable (NF : Nat) (ob : Rec) (i1 : Int32) (i2 : Int32) (i3 : Int32) : Option (Int32) :=
  X_isStable_l3 NF ob NF i1 i2 i3 (0 : Int32)
set_option maxRecDepth 65536 in
set_option maxHeartbeats 4000000 in
theorem X_isStable_p {C : Ctx} {top : Nat} {a : Nat} {H : List (Nat × Nat × Rec)} {ob : Rec} {res : Int32} {NF : Nat} (i1 : Int32) (i2 : Int32) (i3 : Int32) (hf : X_isStable NF ob i1 i2 i3 = some res) : Runs C B27 0 0 0 [vr a, vi i1, vi i2, vi i3, vn, vn] [] (top, (a, 9, ob) :: H) (Ans (some (.int res)) (top, (a, 9, ob) :: H)) := by
  delta X_isStable at hf
  exact Runs.iconst d27_0 ci_0 <| Runs.istore (P' := [vr a, vi i1, vi i2, vi i3, vi (0 : Int32), vn]) d27_1 (by decide) rfl <| X_isStable_l3_p NF i1 i2 i3 (0 : Int32) hf
theorem X_isStable_pay {C : Ctx} {top : Nat} {a : Nat} {H : List (Nat × Nat × Rec)} {ob : Rec} {res : Int32} {NF : Nat} {i1 : Int32} {i2 : Int32} {i3 : Int32} (hf : X_isStable NF ob i1 i2 i3 = some res) : Pays C B27 [.ref a, .int i1, .int i2, .int i3] (top, (a, 9, ob) :: H) (Ans (some (.int res)) (top, (a, 9, ob) :: H)) :=
  Pays.of pnK (Nat.le_of_ble_eq_true rfl) (P := [vr a, vi i1, vi i2, vi i3, vn, vn]) 2 rfl (X_isStable_p i1 i2 i3 hf)
def X_prune_w45 (NF : Nat) (k26 : Rec → Int32 → Int32 → Int32 → Option (Int32 × Rec)) (k45 : Rec → Int32 → Int32 → Int32 → Int32 → Int32 → Option (Int32 × Rec)) (ob : Rec) (i1 : Int32) (i2 : Int32) (i3 : Int32) (i4 : Int32) (i5 : Int32) : Option (Int32 × Rec) :=
  if i4 < i5 then
    k26 ob i1 i2 (i3 + (1 : Int32))
  else
    if (8 : Int32) < i5 then
      k26 ob i1 i2 (i3 + (1 : Int32))
    else
      (X_stateIndex ob i1 i3 i5).bind fun r5 =>
      chk (512 : Int32) r5 <|
      if (gA ob 3 r5) = (2 : Int32) then
        (X_isStable NF ob i1 i3 i5).bind fun r9 =>
        if r9 = (0 : Int32) then
          k45 ob i1 i2 i3 i4 (i5 + (1 : Int32))
        else
          chk (512 : Int32) r5 <|
          k45 (sA ob 3 r5 (3 : Int32)) i1 (i2 + (1 : Int32)) i3 i4 (i5 + (1 : Int32))
      else
        k45 ob i1 i2 i3 i4 (i5 + (1 : Int32))
def X_prune_l45 (NF : Nat) (k26 : Rec → Int32 → Int32 → Int32 → Option (Int32 × Rec)) : Nat → Rec → Int32 → Int32 → Int32 → Int32 → Int32 → Option (Int32 × Rec)
  | 0, _, _, _, _, _, _ => none
  | n + 1, ob, i1, i2, i3, i4, i5 => X_prune_w45 NF k26 (X_prune_l45 NF k26 n) ob i1 i2 i3 i4 i5
set_option maxRecDepth 65536 in
set_option maxHeartbeats 4000000 in
theorem X_prune_w45_p {C : Ctx} {top : Nat} {a : Nat} {H : List (Nat × Nat × Rec)} {res : Int32 × Rec} {NF : Nat} (k26 : Rec → Int32 → Int32 → Int32 → Option (Int32 × Rec)) (hk26 : ∀ (ob : Rec) (i1 : Int32) (i2 : Int32) (i3 : Int32), k26 ob i1 i2 i3 = some res → Runs C B23 0 0 26 [vr a, vi i1, vi i2, vi i3, vn, vn, vn] [] (top, (a, 9, ob) :: H) (Ans (some (.int res.1)) (top, (a, 9, res.2) :: H))) (k45 : Rec → Int32 → Int32 → Int32 → Int32 → Int32 → Option (Int32 × Rec)) (hk45 : ∀ (ob : Rec) (i1 : Int32) (i2 : Int32) (i3 : Int32) (i4 : Int32) (i5 : Int32), k45 ob i1 i2 i3 i4 i5 = some res → Runs C B23 0 0 45 [vr a, vi i1, vi i2, vi i3, vi i4, vi i5, vn] [] (top, (a, 9, ob) :: H) (Ans (some (.int res.1)) (top, (a, 9, res.2) :: H))) (ob : Rec) (i1 : Int32) (i2 : Int32) (i3 : Int32) (i4 : Int32) (i5 : Int32) (hf : X_prune_w45 NF k26 k45 ob i1 i2 i3 i4 i5 = some res) : Runs C B23 0 0 45 [vr a, vi i1, vi i2, vi i3, vi i4, vi i5, vn] [] (top, (a, 9, ob) :: H) (Ans (some (.int res.1)) (top, (a, 9, res.2) :: H)) := by
  delta X_prune_w45 at hf
  refine Runs.iload d23_45 rfl <| Runs.iload d23_47 rfl <| ?_
  refine ite_el hf (fun hc3 hf => ?_) (fun hc3 hf => ?_)
  · refine Runs.icY (pc' := 108) d23_49 (tlt hc3).2.2.1 (by decide) <| ?_
    exact Runs.iinc (P' := [vr a, vi i1, vi i2, vi (i3 + (1 : Int32)), vi i4, vi i5, vn]) d23_108 ci_1 rfl (by decide) rfl <| Runs.goto (pc' := 26) d23_111 (by decide) <| Runs.forget [true, true, true, true, false, false, false] rfl <| hk26 ob i1 i2 (i3 + (1 : Int32)) hf
  · refine Runs.icN d23_49 (flt hc3).2.2.1 <| ?_
    refine Runs.iload d23_52 rfl <| Runs.bipush d23_54 cb_8 <| ?_
    refine ite_el hf (fun hc4 hf => ?_) (fun hc4 hf => ?_)
    · refine Runs.icY (pc' := 108) d23_56 (tlt hc4).2.2.1 (by decide) <| ?_
      exact Runs.iinc (P' := [vr a, vi i1, vi i2, vi (i3 + (1 : Int32)), vi i4, vi i5, vn]) d23_108 ci_1 rfl (by decide) rfl <| Runs.goto (pc' := 26) d23_111 (by decide) <| Runs.forget [true, true, true, true, false, false, false] rfl <| hk26 ob i1 i2 (i3 + (1 : Int32)) hf
    · refine Runs.icN d23_56 (flt hc4).2.2.1 <| ?_
      refine Runs.aloadN d23_59 rfl <| Runs.iloadN d23_60 rfl <| Runs.iloadN d23_61 rfl <| Runs.iload d23_62 rfl <| ?_
      refine bind_el hf fun r5 hg6 hf => ?_
      refine Runs.callP (N := B17) (W := 0) (as := [.int i1, .int i3, .int i5]) (S' := []) d23_64 w105 w106 w107 rfl cw17 ar17 rk23_17_0 (by decide) rfl rfl (X_stateIndex_pay hg6) <| ans1 <| Runs.istore (P' := [vr a, vi i1, vi i2, vi i3, vi i4, vi i5, vi r5]) d23_67 (by decide) rfl <| Runs.aloadN d23_69 rfl <| Runs.getA d23_70 fA_3 w17 (by decide) <| Runs.iload d23_73 rfl <| ?_
      refine chk_el hf fun hi7 hf => ?_
      refine Runs.ialoadA d23_75 fA_3 (by decide) hi7 <| Runs.iconst d23_76 ci_2 <| ?_
      refine ite_el hf (fun hc8 hf => ?_) (fun hc8 hf => ?_)
      · refine Runs.icN d23_77 (teq hc8).2 <| ?_
        refine Runs.aloadN d23_80 rfl <| Runs.iloadN d23_81 rfl <| Runs.iloadN d23_82 rfl <| Runs.iload d23_83 rfl <| ?_
        refine bind_el hf fun r9 hg10 hf => ?_
        refine Runs.callP (N := B27) (W := 0) (as := [.int i1, .int i3, .int i5]) (S' := []) d23_85 w153 w154 w155 rfl cw27 ar27 rk23_27_0 (by decide) rfl rfl (X_isStable_pay hg10) <| ans1 <| ?_
        refine ite_el hf (fun hc11 hf => ?_) (fun hc11 hf => ?_)
        · refine Runs.ifY (pc' := 102) d23_88 (teq hc11).1 (by decide) <| ?_
          exact Runs.iinc (P' := [vr a, vi i1, vi i2, vi i3, vi i4, vi (i5 + (1 : Int32)), vi r5]) d23_102 ci_1 rfl (by decide) rfl <| Runs.goto (pc' := 45) d23_105 (by decide) <| Runs.forget [true, true, true, true, true, true, false] rfl <| hk45 ob i1 i2 i3 i4 (i5 + (1 : Int32)) hf
        · refine Runs.ifN d23_88 (feq hc11).1 <| ?_
          refine Runs.aloadN d23_91 rfl <| Runs.getA d23_92 fA_3 w17 (by decide) <| Runs.iload d23_95 rfl <| Runs.iconst d23_97 ci_3 <| ?_
          refine chk_el hf fun hi12 hf => ?_
          exact Runs.iastoreA d23_98 fA_3 (by decide) hi12 <| Runs.iinc (P' := [vr a, vi i1, vi (i2 + (1 : Int32)), vi i3, vi i4, vi i5, vi r5]) d23_99 ci_1 rfl (by decide) rfl <| Runs.iinc (P' := [vr a, vi i1, vi (i2 + (1 : Int32)), vi i3, vi i4, vi (i5 + (1 : Int32)), vi r5]) d23_102 ci_1 rfl (by decide) rfl <| Runs.goto (pc' := 45) d23_105 (by decide) <| Runs.forget [true, true, true, true, true, true, false] rfl <| hk45 (sA ob 3 r5 (3 : Int32)) i1 (i2 + (1 : Int32)) i3 i4 (i5 + (1 : Int32)) hf
      · refine Runs.icY (pc' := 102) d23_77 (feq hc8).2 (by decide) <| ?_
        exact Runs.iinc (P' := [vr a, vi i1, vi i2, vi i3, vi i4, vi (i5 + (1 : Int32)), vi r5]) d23_102 ci_1 rfl (by decide) rfl <| Runs.goto (pc' := 45) d23_105 (by decide) <| Runs.forget [true, true, true, true, true, true, false] rfl <| hk45 ob i1 i2 i3 i4 (i5 + (1 : Int32)) hf
theorem X_prune_l45_p {C : Ctx} {top : Nat} {a : Nat} {H : List (Nat × Nat × Rec)} {res : Int32 × Rec} {NF : Nat} (k26 : Rec → Int32 → Int32 → Int32 → Option (Int32 × Rec)) (hk26 : ∀ (ob : Rec) (i1 : Int32) (i2 : Int32) (i3 : Int32), k26 ob i1 i2 i3 = some res → Runs C B23 0 0 26 [vr a, vi i1, vi i2, vi i3, vn, vn, vn] [] (top, (a, 9, ob) :: H) (Ans (some (.int res.1)) (top, (a, 9, res.2) :: H))) (n : Nat) (ob : Rec) (i1 : Int32) (i2 : Int32) (i3 : Int32) (i4 : Int32) (i5 : Int32) (hf : X_prune_l45 NF k26 n ob i1 i2 i3 i4 i5 = some res) : Runs C B23 0 0 45 [vr a, vi i1, vi i2, vi i3, vi i4, vi i5, vn] [] (top, (a, 9, ob) :: H) (Ans (some (.int res.1)) (top, (a, 9, res.2) :: H)) := by
  induction n generalizing ob i1 i2 i3 i4 i5 with
  | zero => cases (show (none : Option (Int32 × Rec)) = some res from hf)
  | succ n ih => exact X_prune_w45_p k26 hk26 (X_prune_l45 NF k26 n) (fun ob i1 i2 i3 i4 i5 h => ih _ _ _ _ _ _ h) ob i1 i2 i3 i4 i5 hf
def X_prune_w26 (NF : Nat) (k26 : Rec → Int32 → Int32 → Int32 → Option (Int32 × Rec)) (ob : Rec) (i1 : Int32) (i2 : Int32) (i3 : Int32) : Option (Int32 × Rec) :=
  if i3 < (gI ob 0) then
    chk (8 : Int32) i3 <|
    X_prune_l45 NF k26 NF ob i1 i2 i3 (gA ob 0 i3) (1 : Int32)
  else
    some (i2, ob)
def X_prune_l26 (NF : Nat) : Nat → Rec → Int32 → Int32 → Int32 → Option (Int32 × Rec)
  | 0, _, _, _, _ => none
  | n + 1, ob, i1, i2, i3 => X_prune_w26 NF (X_prune_l26 NF n) ob i1 i2 i3
set_option maxRecDepth 65536 in
set_option maxHeartbeats 4000000 in
theorem X_prune_w26_p {C : Ctx} {top : Nat} {a : Nat} {H : List (Nat × Nat × Rec)} {res : Int32 × Rec} {NF : Nat} (k26 : Rec → Int32 → Int32 → Int32 → Option (Int32 × Rec)) (hk26 : ∀ (ob : Rec) (i1 : Int32) (i2 : Int32) (i3 : Int32), k26 ob i1 i2 i3 = some res → Runs C B23 0 0 26 [vr a, vi i1, vi i2, vi i3, vn, vn, vn] [] (top, (a, 9, ob) :: H) (Ans (some (.int res.1)) (top, (a, 9, res.2) :: H))) (ob : Rec) (i1 : Int32) (i2 : Int32) (i3 : Int32) (hf : X_prune_w26 NF k26 ob i1 i2 i3 = some res) : Runs C B23 0 0 26 [vr a, vi i1, vi i2, vi i3, vn, vn, vn] [] (top, (a, 9, ob) :: H) (Ans (some (.int res.1)) (top, (a, 9, res.2) :: H)) := by
  delta X_prune_w26 at hf
  refine Runs.iloadN d23_26 rfl <| Runs.aloadN d23_27 rfl <| Runs.getI d23_28 w29 fS_0 <| ?_
  refine ite_el hf (fun hc1 hf => ?_) (fun hc1 hf => ?_)
  · refine Runs.icN d23_31 (tlt hc1).2.1 <| ?_
    refine Runs.aloadN d23_34 rfl <| Runs.getA d23_35 fA_0 w10 (by decide) <| Runs.iloadN d23_38 rfl <| ?_
    refine chk_el hf fun hi2 hf => ?_
    exact Runs.ialoadA d23_39 fA_0 (by decide) hi2 <| Runs.istore (P' := [vr a, vi i1, vi i2, vi i3, vi (gA ob 0 i3), vn, vn]) d23_40 (by decide) rfl <| Runs.iconst d23_42 ci_1 <| Runs.istore (P' := [vr a, vi i1, vi i2, vi i3, vi (gA ob 0 i3), vi (1 : Int32), vn]) d23_43 (by decide) rfl <| X_prune_l45_p k26 hk26 NF ob i1 i2 i3 (gA ob 0 i3) (1 : Int32) hf
  · refine Runs.icY (pc' := 114) d23_31 (flt hc1).2.1 (by decide) <| ?_
    obtain rfl := Option.some.inj hf
    exact Runs.iloadN d23_114 rfl <| Runs.retI d23_115 rfl ⟨by decide, by decide⟩ ⟨rfl, rfl⟩
theorem X_prune_l26_p {C : Ctx} {top : Nat} {a : Nat} {H : List (Nat × Nat × Rec)} {res : Int32 × Rec} {NF : Nat} (n : Nat) (ob : Rec) (i1 : Int32) (i2 : Int32) (i3 : Int32) (hf : X_prune_l26 NF n ob i1 i2 i3 = some res) : Runs C B23 0 0 26 [vr a, vi i1, vi i2, vi i3, vn, vn, vn] [] (top, (a, 9, ob) :: H) (Ans (some (.int res.1)) (top, (a, 9, res.2) :: H)) := by
  induction n generalizing ob i1 i2 i3 with
  | zero => cases (show (none : Option (Int32 × Rec)) = some res from hf)
  | succ n ih => exact X_prune_w26_p (X_prune_l26 NF n) (fun ob i1 i2 i3 h => ih _ _ _ _ h) ob i1 i2 i3 hf
def X_prune (NF : Nat) (ob : Rec) (i1 : Int32) : Option (Int32 × Rec) :=
  (X_validProc ob i1).bind fun r13 =>
  if r13 = (0 : Int32) then
    some ((-1 : Int32), ob)
  else
    chk (8 : Int32) i1 <|
    if (gA ob 1 i1) = (0 : Int32) then
      X_prune_l26 NF NF ob i1 (0 : Int32) (0 : Int32)
    else
      some ((-2 : Int32), ob)
set_option maxRecDepth 65536 in
set_option maxHeartbeats 4000000 in
theorem X_prune_p {C : Ctx} {top : Nat} {a : Nat} {H : List (Nat × Nat × Rec)} {res : Int32 × Rec} {NF : Nat} (ob : Rec) (i1 : Int32) (hf : X_prune NF ob i1 = some res) : Runs C B23 0 0 0 [vr a, vi i1, vn, vn, vn, vn, vn] [] (top, (a, 9, ob) :: H) (Ans (some (.int res.1)) (top, (a, 9, res.2) :: H)) := by
  delta X_prune at hf
  refine Runs.aloadN d23_0 rfl <| Runs.iloadN d23_1 rfl <| ?_
  refine bind_el hf fun r13 hg14 hf => ?_
  refine Runs.callP (N := B7) (W := 0) (as := [.int i1]) (S' := []) d23_2 w58 w59 w60 rfl cw7 ar7 rk23_7_0 (by decide) rfl rfl (X_validProc_pay hg14) <| ans1 <| ?_
  refine ite_el hf (fun hc15 hf => ?_) (fun hc15 hf => ?_)
  · refine Runs.ifN d23_5 (teq hc15).2 <| ?_
    obtain rfl := Option.some.inj hf
    exact Runs.iconst d23_8 ci_m1 <| Runs.retI d23_9 rfl ⟨by decide, by decide⟩ ⟨rfl, rfl⟩
  · refine Runs.ifY (pc' := 10) d23_5 (feq hc15).2 (by decide) <| ?_
    refine Runs.aloadN d23_10 rfl <| Runs.getA d23_11 fA_1 w13 (by decide) <| Runs.iloadN d23_14 rfl <| ?_
    refine chk_el hf fun hi16 hf => ?_
    refine Runs.baloadA d23_15 fA_1 (by decide) hi16 <| ?_
    refine ite_el hf (fun hc17 hf => ?_) (fun hc17 hf => ?_)
    · refine Runs.ifY (pc' := 22) d23_16 (teq hc17).1 (by decide) <| ?_
      exact Runs.iconst d23_22 ci_0 <| Runs.istoreN (P' := [vr a, vi i1, vi (0 : Int32), vn, vn, vn, vn]) d23_23 (by decide) rfl <| Runs.iconst d23_24 ci_0 <| Runs.istoreN (P' := [vr a, vi i1, vi (0 : Int32), vi (0 : Int32), vn, vn, vn]) d23_25 (by decide) rfl <| X_prune_l26_p NF ob i1 (0 : Int32) (0 : Int32) hf
    · refine Runs.ifN d23_16 (feq hc17).1 <| ?_
      obtain rfl := Option.some.inj hf
      exact Runs.bipush d23_19 cb_m2 <| Runs.retI d23_21 rfl ⟨by decide, by decide⟩ ⟨rfl, rfl⟩
theorem X_prune_pay {C : Ctx} {top : Nat} {a : Nat} {H : List (Nat × Nat × Rec)} {res : Int32 × Rec} {NF : Nat} {ob : Rec} {i1 : Int32} (hf : X_prune NF ob i1 = some res) : Pays C B23 [.ref a, .int i1] (top, (a, 9, ob) :: H) (Ans (some (.int res.1)) (top, (a, 9, res.2) :: H)) :=
  Pays.of pnK (Nat.le_of_ble_eq_true rfl) (P := [vr a, vi i1, vn, vn, vn, vn, vn]) 5 rfl (X_prune_p ob i1 hf)
def X_othersAllCrashed_w2 (NF : Nat) (ob : Rec) (k2 : Int32 → Int32 → Option (Int32)) (i1 : Int32) (i2 : Int32) : Option (Int32) :=
  if i2 < (gI ob 0) then
    if i2 = i1 then
      k2 i1 (i2 + (1 : Int32))
    else
      chk (8 : Int32) i2 <|
      if (gA ob 1 i2) = (0 : Int32) then
        some (0 : Int32)
      else
        k2 i1 (i2 + (1 : Int32))
  else
    some (1 : Int32)
def X_othersAllCrashed_l2 (NF : Nat) (ob : Rec) : Nat → Int32 → Int32 → Option (Int32)
  | 0, _, _ => none
  | n + 1, i1, i2 => X_othersAllCrashed_w2 NF ob (X_othersAllCrashed_l2 NF ob n) i1 i2
set_option maxRecDepth 65536 in
set_option maxHeartbeats 4000000 in
theorem X_othersAllCrashed_w2_p {C : Ctx} {top : Nat} {a : Nat} {H : List (Nat × Nat × Rec)} {ob : Rec} {res : Int32} {NF : Nat} (k2 : Int32 → Int32 → Option (Int32)) (hk2 : ∀ (i1 : Int32) (i2 : Int32), k2 i1 i2 = some res → Runs C B21 0 0 2 [vr a, vi i1, vi i2] [] (top, (a, 9, ob) :: H) (Ans (some (.int res)) (top, (a, 9, ob) :: H))) (i1 : Int32) (i2 : Int32) (hf : X_othersAllCrashed_w2 NF ob k2 i1 i2 = some res) : Runs C B21 0 0 2 [vr a, vi i1, vi i2] [] (top, (a, 9, ob) :: H) (Ans (some (.int res)) (top, (a, 9, ob) :: H)) := by
  delta X_othersAllCrashed_w2 at hf
  refine Runs.iloadN d21_2 rfl <| Runs.aloadN d21_3 rfl <| Runs.getI d21_4 w29 fS_0 <| ?_
  refine ite_el hf (fun hc1 hf => ?_) (fun hc1 hf => ?_)
  · refine Runs.icN d21_7 (tlt hc1).2.1 <| ?_
    refine Runs.iloadN d21_10 rfl <| Runs.iloadN d21_11 rfl <| ?_
    refine ite_el hf (fun hc2 hf => ?_) (fun hc2 hf => ?_)
    · refine Runs.icY (pc' := 26) d21_12 (teq hc2).1 (by decide) <| ?_
      exact Runs.iinc (P' := [vr a, vi i1, vi (i2 + (1 : Int32))]) d21_26 ci_1 rfl (by decide) rfl <| Runs.goto (pc' := 2) d21_29 (by decide) <| hk2 i1 (i2 + (1 : Int32)) hf
    · refine Runs.icN d21_12 (feq hc2).1 <| ?_
      refine Runs.aloadN d21_15 rfl <| Runs.getA d21_16 fA_1 w13 (by decide) <| Runs.iloadN d21_19 rfl <| ?_
      refine chk_el hf fun hi3 hf => ?_
      refine Runs.baloadA d21_20 fA_1 (by decide) hi3 <| ?_
      refine ite_el hf (fun hc4 hf => ?_) (fun hc4 hf => ?_)
      · refine Runs.ifN d21_21 (teq hc4).2 <| ?_
        obtain rfl := Option.some.inj hf
        exact Runs.iconst d21_24 ci_0 <| Runs.retZ (y := (0 : Int32)) d21_25 rfl ⟨by decide, by decide⟩ rfl ⟨rfl, rfl⟩
      · refine Runs.ifY (pc' := 26) d21_21 (feq hc4).2 (by decide) <| ?_
        exact Runs.iinc (P' := [vr a, vi i1, vi (i2 + (1 : Int32))]) d21_26 ci_1 rfl (by decide) rfl <| Runs.goto (pc' := 2) d21_29 (by decide) <| hk2 i1 (i2 + (1 : Int32)) hf
  · refine Runs.icY (pc' := 32) d21_7 (flt hc1).2.1 (by decide) <| ?_
    obtain rfl := Option.some.inj hf
    exact Runs.iconst d21_32 ci_1 <| Runs.retZ (y := (1 : Int32)) d21_33 rfl ⟨by decide, by decide⟩ rfl ⟨rfl, rfl⟩
theorem X_othersAllCrashed_l2_p {C : Ctx} {top : Nat} {a : Nat} {H : List (Nat × Nat × Rec)} {ob : Rec} {res : Int32} {NF : Nat} (n : Nat) (i1 : Int32) (i2 : Int32) (hf : X_othersAllCrashed_l2 NF ob n i1 i2 = some res) : Runs C B21 0 0 2 [vr a, vi i1, vi i2] [] (top, (a, 9, ob) :: H) (Ans (some (.int res)) (top, (a, 9, ob) :: H)) := by
  induction n generalizing i1 i2 with
  | zero => cases (show (none : Option (Int32)) = some res from hf)
  | succ n ih => exact X_othersAllCrashed_w2_p (X_othersAllCrashed_l2 NF ob n) (fun i1 i2 h => ih _ _ h) i1 i2 hf
def X_othersAllCrashed (NF : Nat) (ob : Rec) (i1 : Int32) : Option (Int32) :=
  X_othersAllCrashed_l2 NF ob NF i1 (0 : Int32)
set_option maxRecDepth 65536 in
set_option maxHeartbeats 4000000 in
theorem X_othersAllCrashed_p {C : Ctx} {top : Nat} {a : Nat} {H : List (Nat × Nat × Rec)} {ob : Rec} {res : Int32} {NF : Nat} (i1 : Int32) (hf : X_othersAllCrashed NF ob i1 = some res) : Runs C B21 0 0 0 [vr a, vi i1, vn] [] (top, (a, 9, ob) :: H) (Ans (some (.int res)) (top, (a, 9, ob) :: H)) := by
  delta X_othersAllCrashed at hf
  exact Runs.iconst d21_0 ci_0 <| Runs.istoreN (P' := [vr a, vi i1, vi (0 : Int32)]) d21_1 (by decide) rfl <| X_othersAllCrashed_l2_p NF i1 (0 : Int32) hf
theorem X_othersAllCrashed_pay {C : Ctx} {top : Nat} {a : Nat} {H : List (Nat × Nat × Rec)} {ob : Rec} {res : Int32} {NF : Nat} {i1 : Int32} (hf : X_othersAllCrashed NF ob i1 = some res) : Pays C B21 [.ref a, .int i1] (top, (a, 9, ob) :: H) (Ans (some (.int res)) (top, (a, 9, ob) :: H)) :=
  Pays.of pnK (Nat.le_of_ble_eq_true rfl) (P := [vr a, vi i1, vn]) 1 rfl (X_othersAllCrashed_p i1 hf)
def X_crash (NF : Nat) (ob : Rec) (i1 : Int32) : Option (Int32 × Rec) :=
  (X_validProc ob i1).bind fun r1 =>
  if r1 = (0 : Int32) then
    some ((-1 : Int32), ob)
  else
    chk (8 : Int32) i1 <|
    if (gA ob 1 i1) = (0 : Int32) then
      (X_othersAllCrashed NF ob i1).bind fun r6 =>
      if r6 = (0 : Int32) then
        chk (8 : Int32) i1 <|
        some ((0 : Int32), (sA ob 1 i1 (1 : Int32)))
      else
        some ((-7 : Int32), ob)
    else
      some ((-2 : Int32), ob)
set_option maxRecDepth 65536 in
set_option maxHeartbeats 4000000 in
theorem X_crash_p {C : Ctx} {top : Nat} {a : Nat} {H : List (Nat × Nat × Rec)} {res : Int32 × Rec} {NF : Nat} (ob : Rec) (i1 : Int32) (hf : X_crash NF ob i1 = some res) : Runs C B20 0 0 0 [vr a, vi i1] [] (top, (a, 9, ob) :: H) (Ans (some (.int res.1)) (top, (a, 9, res.2) :: H)) := by
  delta X_crash at hf
  refine Runs.aloadN d20_0 rfl <| Runs.iloadN d20_1 rfl <| ?_
  refine bind_el hf fun r1 hg2 hf => ?_
  refine Runs.callP (N := B7) (W := 0) (as := [.int i1]) (S' := []) d20_2 w58 w59 w60 rfl cw7 ar7 rk20_7_0 (by decide) rfl rfl (X_validProc_pay hg2) <| ans1 <| ?_
  refine ite_el hf (fun hc3 hf => ?_) (fun hc3 hf => ?_)
  · refine Runs.ifN d20_5 (teq hc3).2 <| ?_
    obtain rfl := Option.some.inj hf
    exact Runs.iconst d20_8 ci_m1 <| Runs.retI d20_9 rfl ⟨by decide, by decide⟩ ⟨rfl, rfl⟩
  · refine Runs.ifY (pc' := 10) d20_5 (feq hc3).2 (by decide) <| ?_
    refine Runs.aloadN d20_10 rfl <| Runs.getA d20_11 fA_1 w13 (by decide) <| Runs.iloadN d20_14 rfl <| ?_
    refine chk_el hf fun hi4 hf => ?_
    refine Runs.baloadA d20_15 fA_1 (by decide) hi4 <| ?_
    refine ite_el hf (fun hc5 hf => ?_) (fun hc5 hf => ?_)
    · refine Runs.ifY (pc' := 22) d20_16 (teq hc5).1 (by decide) <| ?_
      refine Runs.aloadN d20_22 rfl <| Runs.iloadN d20_23 rfl <| ?_
      refine bind_el hf fun r6 hg7 hf => ?_
      refine Runs.callP (N := B21) (W := 0) (as := [.int i1]) (S' := []) d20_24 w123 w124 w125 rfl cw21 ar21 rk20_21_0 (by decide) rfl rfl (X_othersAllCrashed_pay hg7) <| ans1 <| ?_
      refine ite_el hf (fun hc8 hf => ?_) (fun hc8 hf => ?_)
      · refine Runs.ifY (pc' := 33) d20_27 (teq hc8).1 (by decide) <| ?_
        refine Runs.aloadN d20_33 rfl <| Runs.getA d20_34 fA_1 w13 (by decide) <| Runs.iloadN d20_37 rfl <| Runs.iconst d20_38 ci_1 <| ?_
        refine chk_el hf fun hi9 hf => ?_
        obtain rfl := Option.some.inj hf
        exact Runs.bastoreA (y := (1 : Int32)) d20_39 fA_1 (by decide) hi9 rfl <| Runs.iconst d20_40 ci_0 <| Runs.retI d20_41 rfl ⟨by decide, by decide⟩ ⟨rfl, rfl⟩
      · refine Runs.ifN d20_27 (feq hc8).1 <| ?_
        obtain rfl := Option.some.inj hf
        exact Runs.bipush d20_30 cb_m7 <| Runs.retI d20_32 rfl ⟨by decide, by decide⟩ ⟨rfl, rfl⟩
    · refine Runs.ifN d20_16 (feq hc5).1 <| ?_
      obtain rfl := Option.some.inj hf
      exact Runs.bipush d20_19 cb_m2 <| Runs.retI d20_21 rfl ⟨by decide, by decide⟩ ⟨rfl, rfl⟩
theorem X_crash_pay {C : Ctx} {top : Nat} {a : Nat} {H : List (Nat × Nat × Rec)} {res : Int32 × Rec} {NF : Nat} {ob : Rec} {i1 : Int32} (hf : X_crash NF ob i1 = some res) : Pays C B20 [.ref a, .int i1] (top, (a, 9, ob) :: H) (Ans (some (.int res.1)) (top, (a, 9, res.2) :: H)) :=
  Pays.of pnK (Nat.le_of_ble_eq_true rfl) (P := [vr a, vi i1]) 0 rfl (X_crash_p ob i1 hf)
def L_law_b226 (NF : Nat) (z : Int32) (f : Int32 → Int32) (k12 : Rec → Int32 → Option (Int32)) (ob : Rec) (i2 : Int32) (l9 : Int64) (i11 : Int32) : Option (Int32) :=
  (L_fp NF ob).bind fun r40 =>
  if i11 < (0 : Int32) then
    if i11 = (-5 : Int32) then
      k12 ob (i2 + (4 : Int32))
    else
      if r40 = l9 then
        k12 ob (i2 + (4 : Int32))
      else
        some (0 : Int32)
  else
    k12 ob (i2 + (4 : Int32))
set_option maxRecDepth 65536 in
set_option maxHeartbeats 4000000 in
theorem L_law_b226_p {C : Ctx} {sa : Nat} {z : Int32} {f : Int32 → Int32} (hs : ScrF C sa z f) {res : Int32} {NF : Nat} (k12 : Rec → Int32 → Option (Int32)) (hk12 : ∀ (ob : Rec) (i2 : Int32), k12 ob i2 = some res → Runs C B0 10 2659 12 [vr sa, vr C.2.2.1, vi i2, vn, vn, vn, vn, vn, vn, vn, vn, vn, vn, vn] [] (C.2.2.1 + 1 + 9, (C.2.2.1, 9, ob) :: []) (fun v _ => v = (some (.int res)))) (ob : Rec) (i2 : Int32) (l9 : Int64) (i11 : Int32) (hf : L_law_b226 NF z f k12 ob i2 l9 i11 = some res) : Runs C B0 10 2659 226 [vr sa, vr C.2.2.1, vi i2, vn, vn, vn, vn, vn, vn, vl l9, v2, vi i11, vn, vn] [] (C.2.2.1 + 1 + 9, (C.2.2.1, 9, ob) :: []) (fun v _ => v = (some (.int res))) := by
  delta L_law_b226 at hf
  refine Runs.aloadN d0_226 rfl <| ?_
  refine bind_el hf fun r40 hg41 hf => ?_
  refine Runs.callS (N := B2) (W := 0) (as := [.ref C.2.2.1]) (S' := []) d0_227 w33 w34 cw2 ar2 rk0_2_0 (by decide) rfl rfl (L_fp_pay hg41) <| ans1 <| Runs.lstore (P' := [vr sa, vr C.2.2.1, vi i2, vn, vn, vn, vn, vn, vn, vl l9, v2, vi i11, vl r40, v2]) d0_230 (by decide) rfl <| Runs.iload d0_232 rfl <| ?_
  refine ite_el hf (fun hc42 hf => ?_) (fun hc42 hf => ?_)
  · refine Runs.ifN d0_234 (tlt hc42).2.1 <| ?_
    refine Runs.iload d0_237 rfl <| Runs.bipush d0_239 cb_m5 <| ?_
    refine ite_el hf (fun hc43 hf => ?_) (fun hc43 hf => ?_)
    · refine Runs.icY (pc' := 254) d0_241 (teq hc43).1 (by decide) <| ?_
      exact Runs.iinc (P' := [vr sa, vr C.2.2.1, vi (i2 + (4 : Int32)), vn, vn, vn, vn, vn, vn, vl l9, v2, vi i11, vl r40, v2]) d0_254 ci_4 rfl (by decide) rfl <| Runs.goto (pc' := 12) d0_257 (by decide) <| Runs.forget [true, true, true, false, false, false, false, false, false, false, false, false, false, false] rfl <| hk12 ob (i2 + (4 : Int32)) hf
    · refine Runs.icN d0_241 (feq hc43).1 <| ?_
      refine Runs.lload d0_244 rfl <| Runs.lload d0_246 rfl <| Runs.lcmp d0_248 <| ?_
      refine ite_el hf (fun hc44 hf => ?_) (fun hc44 hf => ?_)
      · refine Runs.ifY (pc' := 254) d0_249 (teq ((lw_eq _ _).mpr hc44)).1 (by decide) <| ?_
        exact Runs.iinc (P' := [vr sa, vr C.2.2.1, vi (i2 + (4 : Int32)), vn, vn, vn, vn, vn, vn, vl l9, v2, vi i11, vl r40, v2]) d0_254 ci_4 rfl (by decide) rfl <| Runs.goto (pc' := 12) d0_257 (by decide) <| Runs.forget [true, true, true, false, false, false, false, false, false, false, false, false, false, false] rfl <| hk12 ob (i2 + (4 : Int32)) hf
      · refine Runs.ifN d0_249 (feq (fun u => hc44 ((lw_eq _ _).mp u))).1 <| ?_
        obtain rfl := Option.some.inj hf
        exact Runs.iconst d0_252 ci_0 <| Runs.retZ (y := (0 : Int32)) d0_253 rfl ⟨by decide, by decide⟩ rfl rfl
  · refine Runs.ifY (pc' := 254) d0_234 (flt hc42).2.1 (by decide) <| ?_
    exact Runs.iinc (P' := [vr sa, vr C.2.2.1, vi (i2 + (4 : Int32)), vn, vn, vn, vn, vn, vn, vl l9, v2, vi i11, vl r40, v2]) d0_254 ci_4 rfl (by decide) rfl <| Runs.goto (pc' := 12) d0_257 (by decide) <| Runs.forget [true, true, true, false, false, false, false, false, false, false, false, false, false, false] rfl <| hk12 ob (i2 + (4 : Int32)) hf
def L_law_b102 (NF : Nat) (z : Int32) (f : Int32 → Int32) (k12 : Rec → Int32 → Option (Int32)) (ob : Rec) (i2 : Int32) (i5 : Int32) (i6 : Int32) (i7 : Int32) (l9 : Int64) : Option (Int32) :=
  bind2 (X_receive NF ob i7 i5 i6) fun r37 q38 =>
  L_law_b226 NF z f k12 q38 i2 l9 r37
set_option maxRecDepth 65536 in
set_option maxHeartbeats 4000000 in
theorem L_law_b102_p {C : Ctx} {sa : Nat} {z : Int32} {f : Int32 → Int32} (hs : ScrF C sa z f) {res : Int32} {NF : Nat} (k12 : Rec → Int32 → Option (Int32)) (hk12 : ∀ (ob : Rec) (i2 : Int32), k12 ob i2 = some res → Runs C B0 10 2659 12 [vr sa, vr C.2.2.1, vi i2, vn, vn, vn, vn, vn, vn, vn, vn, vn, vn, vn] [] (C.2.2.1 + 1 + 9, (C.2.2.1, 9, ob) :: []) (fun v _ => v = (some (.int res)))) (ob : Rec) (i2 : Int32) (i5 : Int32) (i6 : Int32) (i7 : Int32) (l9 : Int64) (hf : L_law_b102 NF z f k12 ob i2 i5 i6 i7 l9 = some res) : Runs C B0 10 2659 102 [vr sa, vr C.2.2.1, vi i2, vn, vn, vi i5, vi i6, vi i7, vn, vl l9, v2, vn, vn, vn] [] (C.2.2.1 + 1 + 9, (C.2.2.1, 9, ob) :: []) (fun v _ => v = (some (.int res))) := by
  delta L_law_b102 at hf
  refine Runs.aloadN d0_102 rfl <| Runs.iload d0_103 rfl <| Runs.iload d0_105 rfl <| Runs.iload d0_107 rfl <| ?_
  refine bind2_el hf fun r37 q38 hg39 hf => ?_
  exact Runs.callV (N := B22) (W := 0) (as := [.int i7, .int i5, .int i6]) (S' := []) d0_109 w128 w129 w130 w131 cw22 ar22 rk0_22_0 (by decide) rfl rfl (X_receive_pay hg39) <| ans1 <| Runs.istore (P' := [vr sa, vr C.2.2.1, vi i2, vn, vn, vi i5, vi i6, vi i7, vn, vl l9, v2, vi r37, vn, vn]) d0_112 (by decide) rfl <| Runs.goto (pc' := 226) d0_114 (by decide) <| Runs.forget [true, true, true, false, false, false, false, false, false, true, true, true, false, false] rfl <| L_law_b226_p hs k12 hk12 q38 i2 l9 r37 hf
def L_law_w12 (NF : Nat) (z : Int32) (f : Int32 → Int32) (k12 : Rec → Int32 → Option (Int32)) (ob : Rec) (i2 : Int32) : Option (Int32) :=
  if (i2 + (3 : Int32)) < z then
    chk z i2 <|
    chk z (i2 + (1 : Int32)) <|
    chk z (i2 + (2 : Int32)) <|
    chk z (i2 + (3 : Int32)) <|
    (L_fp NF ob).bind fun r6 =>
    if ((f i2) &&& (15 : Int32)) < (4 : Int32) then
      bind2 (X_broadcast NF ob ((f (i2 + (1 : Int32))) &&& (3 : Int32))) fun r9 q10 =>
      L_law_b226 NF z f k12 q10 i2 r6 r9
    else
      if ((f i2) &&& (15 : Int32)) < (8 : Int32) then
        L_law_b102 NF z f k12 ob i2 ((f (i2 + (2 : Int32))) &&& (3 : Int32)) (((f (i2 + (3 : Int32))) &&& (3 : Int32)) + (1 : Int32)) ((f (i2 + (1 : Int32))) &&& (3 : Int32)) r6
      else
        if ((f i2) &&& (15 : Int32)) = (15 : Int32) then
          L_law_b102 NF z f k12 ob i2 ((f (i2 + (2 : Int32))) &&& (3 : Int32)) (((f (i2 + (3 : Int32))) &&& (3 : Int32)) + (1 : Int32)) ((f (i2 + (1 : Int32))) &&& (3 : Int32)) r6
        else
          if ((f i2) &&& (15 : Int32)) = (8 : Int32) then
            bind2 (X_duplicate ob ((f (i2 + (2 : Int32))) &&& (3 : Int32)) (((f (i2 + (3 : Int32))) &&& (3 : Int32)) + (1 : Int32)) ((f (i2 + (1 : Int32))) &&& (3 : Int32))) fun r15 q16 =>
            L_law_b226 NF z f k12 q16 i2 r6 r15
          else
            if ((f i2) &&& (15 : Int32)) = (9 : Int32) then
              bind2 (X_drop ob ((f (i2 + (2 : Int32))) &&& (3 : Int32)) (((f (i2 + (3 : Int32))) &&& (3 : Int32)) + (1 : Int32)) ((f (i2 + (1 : Int32))) &&& (3 : Int32))) fun r19 q20 =>
              L_law_b226 NF z f k12 q20 i2 r6 r19
            else
              if ((f i2) &&& (15 : Int32)) < (12 : Int32) then
                bind2 (X_retransmit ob (((f (i2 + (1 : Int32))) >>> ((2 : Int32) &&& 31)) &&& (3 : Int32)) ((f (i2 + (1 : Int32))) &&& (3 : Int32)) ((f (i2 + (2 : Int32))) &&& (3 : Int32)) (((f (i2 + (3 : Int32))) &&& (3 : Int32)) + (1 : Int32))) fun r23 q24 =>
                L_law_b226 NF z f k12 q24 i2 r6 r23
              else
                if ((f i2) &&& (15 : Int32)) = (12 : Int32) then
                  bind2 (X_gossip NF ob (((f (i2 + (1 : Int32))) >>> ((2 : Int32) &&& 31)) &&& (3 : Int32)) ((f (i2 + (1 : Int32))) &&& (3 : Int32))) fun r27 q28 =>
                  L_law_b226 NF z f k12 q28 i2 r6 r27
                else
                  if ((f i2) &&& (15 : Int32)) = (13 : Int32) then
                    bind2 (X_prune NF ob ((f (i2 + (1 : Int32))) &&& (3 : Int32))) fun r31 q32 =>
                    L_law_b226 NF z f k12 q32 i2 r6 r31
                  else
                    bind2 (X_crash NF ob ((f (i2 + (1 : Int32))) &&& (3 : Int32))) fun r34 q35 =>
                    L_law_b226 NF z f k12 q35 i2 r6 r34
  else
    some (1 : Int32)
def L_law_l12 (NF : Nat) (z : Int32) (f : Int32 → Int32) : Nat → Rec → Int32 → Option (Int32)
  | 0, _, _ => none
  | n + 1, ob, i2 => L_law_w12 NF z f (L_law_l12 NF z f n) ob i2
set_option maxRecDepth 65536 in
set_option maxHeartbeats 4000000 in
theorem L_law_w12_p {C : Ctx} {sa : Nat} {z : Int32} {f : Int32 → Int32} (hs : ScrF C sa z f) {res : Int32} {NF : Nat} (k12 : Rec → Int32 → Option (Int32)) (hk12 : ∀ (ob : Rec) (i2 : Int32), k12 ob i2 = some res → Runs C B0 10 2659 12 [vr sa, vr C.2.2.1, vi i2, vn, vn, vn, vn, vn, vn, vn, vn, vn, vn, vn] [] (C.2.2.1 + 1 + 9, (C.2.2.1, 9, ob) :: []) (fun v _ => v = (some (.int res)))) (ob : Rec) (i2 : Int32) (hf : L_law_w12 NF z f k12 ob i2 = some res) : Runs C B0 10 2659 12 [vr sa, vr C.2.2.1, vi i2, vn, vn, vn, vn, vn, vn, vn, vn, vn, vn, vn] [] (C.2.2.1 + 1 + 9, (C.2.2.1, 9, ob) :: []) (fun v _ => v = (some (.int res))) := by
  delta L_law_w12 at hf
  refine Runs.iloadN d0_12 rfl <| Runs.iconst d0_13 ci_3 <| Runs.iadd d0_14 <| Runs.aloadN d0_15 rfl <| Runs.lenS hs d0_16 <| ?_
  refine ite_el hf (fun hc1 hf => ?_) (fun hc1 hf => ?_)
  · refine Runs.icN d0_17 (tlt hc1).2.1 <| ?_
    refine Runs.aloadN d0_20 rfl <| Runs.iloadN d0_21 rfl <| ?_
    refine chk_el hf fun hi2 hf => ?_
    refine Runs.ialoadS hs d0_22 hi2 <| Runs.bipush d0_23 cb_15 <| Runs.iand d0_25 <| Runs.istoreN (P' := [vr sa, vr C.2.2.1, vi i2, vi ((f i2) &&& (15 : Int32)), vn, vn, vn, vn, vn, vn, vn, vn, vn, vn]) d0_26 (by decide) rfl <| Runs.aloadN d0_27 rfl <| Runs.iloadN d0_28 rfl <| Runs.iconst d0_29 ci_1 <| Runs.iadd d0_30 <| ?_
    refine chk_el hf fun hi3 hf => ?_
    refine Runs.ialoadS hs d0_31 hi3 <| Runs.istore (P' := [vr sa, vr C.2.2.1, vi i2, vi ((f i2) &&& (15 : Int32)), vi (f (i2 + (1 : Int32))), vn, vn, vn, vn, vn, vn, vn, vn, vn]) d0_32 (by decide) rfl <| Runs.aloadN d0_34 rfl <| Runs.iloadN d0_35 rfl <| Runs.iconst d0_36 ci_2 <| Runs.iadd d0_37 <| ?_
    refine chk_el hf fun hi4 hf => ?_
    refine Runs.ialoadS hs d0_38 hi4 <| Runs.iconst d0_39 ci_3 <| Runs.iand d0_40 <| Runs.istore (P' := [vr sa, vr C.2.2.1, vi i2, vi ((f i2) &&& (15 : Int32)), vi (f (i2 + (1 : Int32))), vi ((f (i2 + (2 : Int32))) &&& (3 : Int32)), vn, vn, vn, vn, vn, vn, vn, vn]) d0_41 (by decide) rfl <| Runs.aloadN d0_43 rfl <| Runs.iloadN d0_44 rfl <| Runs.iconst d0_45 ci_3 <| Runs.iadd d0_46 <| ?_
    refine chk_el hf fun hi5 hf => ?_
    refine Runs.ialoadS hs d0_47 hi5 <| Runs.iconst d0_48 ci_3 <| Runs.iand d0_49 <| Runs.iconst d0_50 ci_1 <| Runs.iadd d0_51 <| Runs.istore (P' := [vr sa, vr C.2.2.1, vi i2, vi ((f i2) &&& (15 : Int32)), vi (f (i2 + (1 : Int32))), vi ((f (i2 + (2 : Int32))) &&& (3 : Int32)), vi (((f (i2 + (3 : Int32))) &&& (3 : Int32)) + (1 : Int32)), vn, vn, vn, vn, vn, vn, vn]) d0_52 (by decide) rfl <| Runs.iload d0_54 rfl <| Runs.iconst d0_56 ci_3 <| Runs.iand d0_57 <| Runs.istore (P' := [vr sa, vr C.2.2.1, vi i2, vi ((f i2) &&& (15 : Int32)), vi (f (i2 + (1 : Int32))), vi ((f (i2 + (2 : Int32))) &&& (3 : Int32)), vi (((f (i2 + (3 : Int32))) &&& (3 : Int32)) + (1 : Int32)), vi ((f (i2 + (1 : Int32))) &&& (3 : Int32)), vn, vn, vn, vn, vn, vn]) d0_58 (by decide) rfl <| Runs.iload d0_60 rfl <| Runs.iconst d0_62 ci_2 <| ?_
    refine Runs.ishr d0_63 <| Runs.iconst d0_64 ci_3 <| Runs.iand d0_65 <| Runs.istore (P' := [vr sa, vr C.2.2.1, vi i2, vi ((f i2) &&& (15 : Int32)), vi (f (i2 + (1 : Int32))), vi ((f (i2 + (2 : Int32))) &&& (3 : Int32)), vi (((f (i2 + (3 : Int32))) &&& (3 : Int32)) + (1 : Int32)), vi ((f (i2 + (1 : Int32))) &&& (3 : Int32)), vi (((f (i2 + (1 : Int32))) >>> ((2 : Int32) &&& 31)) &&& (3 : Int32)), vn, vn, vn, vn, vn]) d0_66 (by decide) rfl <| Runs.aloadN d0_68 rfl <| ?_
    refine bind_el hf fun r6 hg7 hf => ?_
    refine Runs.callS (N := B2) (W := 0) (as := [.ref C.2.2.1]) (S' := []) d0_69 w33 w34 cw2 ar2 rk0_2_0 (by decide) rfl rfl (L_fp_pay hg7) <| ans1 <| Runs.lstore (P' := [vr sa, vr C.2.2.1, vi i2, vi ((f i2) &&& (15 : Int32)), vi (f (i2 + (1 : Int32))), vi ((f (i2 + (2 : Int32))) &&& (3 : Int32)), vi (((f (i2 + (3 : Int32))) &&& (3 : Int32)) + (1 : Int32)), vi ((f (i2 + (1 : Int32))) &&& (3 : Int32)), vi (((f (i2 + (1 : Int32))) >>> ((2 : Int32) &&& 31)) &&& (3 : Int32)), vl r6, v2, vn, vn, vn]) d0_72 (by decide) rfl <| Runs.iloadN d0_74 rfl <| Runs.iconst d0_75 ci_4 <| ?_
    refine ite_el hf (fun hc8 hf => ?_) (fun hc8 hf => ?_)
    · refine Runs.icN d0_76 (tlt hc8).2.1 <| ?_
      refine Runs.aloadN d0_79 rfl <| Runs.iload d0_80 rfl <| ?_
      refine bind2_el hf fun r9 q10 hg11 hf => ?_
      exact Runs.callV (N := B14) (W := 0) (as := [.int ((f (i2 + (1 : Int32))) &&& (3 : Int32))]) (S' := []) d0_82 w92 w93 w94 w95 cw14 ar14 rk0_14_0 (by decide) rfl rfl (X_broadcast_pay hg11) <| ans1 <| Runs.istore (P' := [vr sa, vr C.2.2.1, vi i2, vi ((f i2) &&& (15 : Int32)), vi (f (i2 + (1 : Int32))), vi ((f (i2 + (2 : Int32))) &&& (3 : Int32)), vi (((f (i2 + (3 : Int32))) &&& (3 : Int32)) + (1 : Int32)), vi ((f (i2 + (1 : Int32))) &&& (3 : Int32)), vi (((f (i2 + (1 : Int32))) >>> ((2 : Int32) &&& 31)) &&& (3 : Int32)), vl r6, v2, vi r9, vn, vn]) d0_85 (by decide) rfl <| Runs.goto (pc' := 226) d0_87 (by decide) <| Runs.forget [true, true, true, false, false, false, false, false, false, true, true, true, false, false] rfl <| L_law_b226_p hs k12 hk12 q10 i2 r6 r9 hf
    · refine Runs.icY (pc' := 90) d0_76 (flt hc8).2.1 (by decide) <| ?_
      refine Runs.iloadN d0_90 rfl <| Runs.bipush d0_91 cb_8 <| ?_
      refine ite_el hf (fun hc12 hf => ?_) (fun hc12 hf => ?_)
      · exact Runs.icY (pc' := 102) d0_93 (tlt hc12).1 (by decide) <| Runs.forget [true, true, true, false, false, true, true, true, false, true, true, false, false, false] rfl <| L_law_b102_p hs k12 hk12 ob i2 ((f (i2 + (2 : Int32))) &&& (3 : Int32)) (((f (i2 + (3 : Int32))) &&& (3 : Int32)) + (1 : Int32)) ((f (i2 + (1 : Int32))) &&& (3 : Int32)) r6 hf
      · refine Runs.icN d0_93 (flt hc12).1 <| ?_
        refine Runs.iloadN d0_96 rfl <| Runs.bipush d0_97 cb_15 <| ?_
        refine ite_el hf (fun hc13 hf => ?_) (fun hc13 hf => ?_)
        · exact Runs.icN d0_99 (teq hc13).2 <| Runs.forget [true, true, true, false, false, true, true, true, false, true, true, false, false, false] rfl <| L_law_b102_p hs k12 hk12 ob i2 ((f (i2 + (2 : Int32))) &&& (3 : Int32)) (((f (i2 + (3 : Int32))) &&& (3 : Int32)) + (1 : Int32)) ((f (i2 + (1 : Int32))) &&& (3 : Int32)) r6 hf
        · refine Runs.icY (pc' := 117) d0_99 (feq hc13).2 (by decide) <| ?_
          refine Runs.iloadN d0_117 rfl <| Runs.bipush d0_118 cb_8 <| ?_
          refine ite_el hf (fun hc14 hf => ?_) (fun hc14 hf => ?_)
          · refine Runs.icN d0_120 (teq hc14).2 <| ?_
            refine Runs.aloadN d0_123 rfl <| Runs.iload d0_124 rfl <| Runs.iload d0_126 rfl <| Runs.iload d0_128 rfl <| ?_
            refine bind2_el hf fun r15 q16 hg17 hf => ?_
            exact Runs.callV (N := B19) (W := 0) (as := [.int ((f (i2 + (2 : Int32))) &&& (3 : Int32)), .int (((f (i2 + (3 : Int32))) &&& (3 : Int32)) + (1 : Int32)), .int ((f (i2 + (1 : Int32))) &&& (3 : Int32))]) (S' := []) d0_130 w113 w114 w115 w116 cw19 ar19 rk0_19_0 (by decide) rfl rfl (X_duplicate_pay hg17) <| ans1 <| Runs.istore (P' := [vr sa, vr C.2.2.1, vi i2, vi ((f i2) &&& (15 : Int32)), vi (f (i2 + (1 : Int32))), vi ((f (i2 + (2 : Int32))) &&& (3 : Int32)), vi (((f (i2 + (3 : Int32))) &&& (3 : Int32)) + (1 : Int32)), vi ((f (i2 + (1 : Int32))) &&& (3 : Int32)), vi (((f (i2 + (1 : Int32))) >>> ((2 : Int32) &&& 31)) &&& (3 : Int32)), vl r6, v2, vi r15, vn, vn]) d0_133 (by decide) rfl <| Runs.goto (pc' := 226) d0_135 (by decide) <| Runs.forget [true, true, true, false, false, false, false, false, false, true, true, true, false, false] rfl <| L_law_b226_p hs k12 hk12 q16 i2 r6 r15 hf
          · refine Runs.icY (pc' := 138) d0_120 (feq hc14).2 (by decide) <| ?_
            refine Runs.iloadN d0_138 rfl <| Runs.bipush d0_139 cb_9 <| ?_
            refine ite_el hf (fun hc18 hf => ?_) (fun hc18 hf => ?_)
            · refine Runs.icN d0_141 (teq hc18).2 <| ?_
              refine Runs.aloadN d0_144 rfl <| Runs.iload d0_145 rfl <| Runs.iload d0_147 rfl <| Runs.iload d0_149 rfl <| ?_
              refine bind2_el hf fun r19 q20 hg21 hf => ?_
              exact Runs.callV (N := B24) (W := 0) (as := [.int ((f (i2 + (2 : Int32))) &&& (3 : Int32)), .int (((f (i2 + (3 : Int32))) &&& (3 : Int32)) + (1 : Int32)), .int ((f (i2 + (1 : Int32))) &&& (3 : Int32))]) (S' := []) d0_151 w138 w139 w140 w141 cw24 ar24 rk0_24_0 (by decide) rfl rfl (X_drop_pay hg21) <| ans1 <| Runs.istore (P' := [vr sa, vr C.2.2.1, vi i2, vi ((f i2) &&& (15 : Int32)), vi (f (i2 + (1 : Int32))), vi ((f (i2 + (2 : Int32))) &&& (3 : Int32)), vi (((f (i2 + (3 : Int32))) &&& (3 : Int32)) + (1 : Int32)), vi ((f (i2 + (1 : Int32))) &&& (3 : Int32)), vi (((f (i2 + (1 : Int32))) >>> ((2 : Int32) &&& 31)) &&& (3 : Int32)), vl r6, v2, vi r19, vn, vn]) d0_154 (by decide) rfl <| Runs.goto (pc' := 226) d0_156 (by decide) <| Runs.forget [true, true, true, false, false, false, false, false, false, true, true, true, false, false] rfl <| L_law_b226_p hs k12 hk12 q20 i2 r6 r19 hf
            · refine Runs.icY (pc' := 159) d0_141 (feq hc18).2 (by decide) <| ?_
              refine Runs.iloadN d0_159 rfl <| Runs.bipush d0_160 cb_12 <| ?_
              refine ite_el hf (fun hc22 hf => ?_) (fun hc22 hf => ?_)
              · refine Runs.icN d0_162 (tlt hc22).2.1 <| ?_
                refine Runs.aloadN d0_165 rfl <| Runs.iload d0_166 rfl <| Runs.iload d0_168 rfl <| Runs.iload d0_170 rfl <| Runs.iload d0_172 rfl <| ?_
                refine bind2_el hf fun r23 q24 hg25 hf => ?_
                exact Runs.callV (N := B25) (W := 0) (as := [.int (((f (i2 + (1 : Int32))) >>> ((2 : Int32) &&& 31)) &&& (3 : Int32)), .int ((f (i2 + (1 : Int32))) &&& (3 : Int32)), .int ((f (i2 + (2 : Int32))) &&& (3 : Int32)), .int (((f (i2 + (3 : Int32))) &&& (3 : Int32)) + (1 : Int32))]) (S' := []) d0_174 w143 w144 w145 w146 cw25 ar25 rk0_25_0 (by decide) rfl rfl (X_retransmit_pay hg25) <| ans1 <| Runs.istore (P' := [vr sa, vr C.2.2.1, vi i2, vi ((f i2) &&& (15 : Int32)), vi (f (i2 + (1 : Int32))), vi ((f (i2 + (2 : Int32))) &&& (3 : Int32)), vi (((f (i2 + (3 : Int32))) &&& (3 : Int32)) + (1 : Int32)), vi ((f (i2 + (1 : Int32))) &&& (3 : Int32)), vi (((f (i2 + (1 : Int32))) >>> ((2 : Int32) &&& 31)) &&& (3 : Int32)), vl r6, v2, vi r23, vn, vn]) d0_177 (by decide) rfl <| Runs.goto (pc' := 226) d0_179 (by decide) <| Runs.forget [true, true, true, false, false, false, false, false, false, true, true, true, false, false] rfl <| L_law_b226_p hs k12 hk12 q24 i2 r6 r23 hf
              · refine Runs.icY (pc' := 182) d0_162 (flt hc22).2.1 (by decide) <| ?_
                refine Runs.iloadN d0_182 rfl <| Runs.bipush d0_183 cb_12 <| ?_
                refine ite_el hf (fun hc26 hf => ?_) (fun hc26 hf => ?_)
                · refine Runs.icN d0_185 (teq hc26).2 <| ?_
                  refine Runs.aloadN d0_188 rfl <| Runs.iload d0_189 rfl <| Runs.iload d0_191 rfl <| ?_
                  refine bind2_el hf fun r27 q28 hg29 hf => ?_
                  exact Runs.callV (N := B26) (W := 0) (as := [.int (((f (i2 + (1 : Int32))) >>> ((2 : Int32) &&& 31)) &&& (3 : Int32)), .int ((f (i2 + (1 : Int32))) &&& (3 : Int32))]) (S' := []) d0_193 w148 w149 w150 w151 cw26 ar26 rk0_26_0 (by decide) rfl rfl (X_gossip_pay hg29) <| ans1 <| Runs.istore (P' := [vr sa, vr C.2.2.1, vi i2, vi ((f i2) &&& (15 : Int32)), vi (f (i2 + (1 : Int32))), vi ((f (i2 + (2 : Int32))) &&& (3 : Int32)), vi (((f (i2 + (3 : Int32))) &&& (3 : Int32)) + (1 : Int32)), vi ((f (i2 + (1 : Int32))) &&& (3 : Int32)), vi (((f (i2 + (1 : Int32))) >>> ((2 : Int32) &&& 31)) &&& (3 : Int32)), vl r6, v2, vi r27, vn, vn]) d0_196 (by decide) rfl <| Runs.goto (pc' := 226) d0_198 (by decide) <| Runs.forget [true, true, true, false, false, false, false, false, false, true, true, true, false, false] rfl <| L_law_b226_p hs k12 hk12 q28 i2 r6 r27 hf
                · refine Runs.icY (pc' := 201) d0_185 (feq hc26).2 (by decide) <| ?_
                  refine Runs.iloadN d0_201 rfl <| Runs.bipush d0_202 cb_13 <| ?_
                  refine ite_el hf (fun hc30 hf => ?_) (fun hc30 hf => ?_)
                  · refine Runs.icN d0_204 (teq hc30).2 <| ?_
                    refine Runs.aloadN d0_207 rfl <| Runs.iload d0_208 rfl <| ?_
                    refine bind2_el hf fun r31 q32 hg33 hf => ?_
                    exact Runs.callV (N := B23) (W := 0) (as := [.int ((f (i2 + (1 : Int32))) &&& (3 : Int32))]) (S' := []) d0_210 w133 w134 w135 w136 cw23 ar23 rk0_23_0 (by decide) rfl rfl (X_prune_pay hg33) <| ans1 <| Runs.istore (P' := [vr sa, vr C.2.2.1, vi i2, vi ((f i2) &&& (15 : Int32)), vi (f (i2 + (1 : Int32))), vi ((f (i2 + (2 : Int32))) &&& (3 : Int32)), vi (((f (i2 + (3 : Int32))) &&& (3 : Int32)) + (1 : Int32)), vi ((f (i2 + (1 : Int32))) &&& (3 : Int32)), vi (((f (i2 + (1 : Int32))) >>> ((2 : Int32) &&& 31)) &&& (3 : Int32)), vl r6, v2, vi r31, vn, vn]) d0_213 (by decide) rfl <| Runs.goto (pc' := 226) d0_215 (by decide) <| Runs.forget [true, true, true, false, false, false, false, false, false, true, true, true, false, false] rfl <| L_law_b226_p hs k12 hk12 q32 i2 r6 r31 hf
                  · refine Runs.icY (pc' := 218) d0_204 (feq hc30).2 (by decide) <| ?_
                    refine Runs.aloadN d0_218 rfl <| Runs.iload d0_219 rfl <| ?_
                    refine bind2_el hf fun r34 q35 hg36 hf => ?_
                    exact Runs.callV (N := B20) (W := 0) (as := [.int ((f (i2 + (1 : Int32))) &&& (3 : Int32))]) (S' := []) d0_221 w118 w119 w120 w121 cw20 ar20 rk0_20_0 (by decide) rfl rfl (X_crash_pay hg36) <| ans1 <| Runs.istore (P' := [vr sa, vr C.2.2.1, vi i2, vi ((f i2) &&& (15 : Int32)), vi (f (i2 + (1 : Int32))), vi ((f (i2 + (2 : Int32))) &&& (3 : Int32)), vi (((f (i2 + (3 : Int32))) &&& (3 : Int32)) + (1 : Int32)), vi ((f (i2 + (1 : Int32))) &&& (3 : Int32)), vi (((f (i2 + (1 : Int32))) >>> ((2 : Int32) &&& 31)) &&& (3 : Int32)), vl r6, v2, vi r34, vn, vn]) d0_224 (by decide) rfl <| Runs.forget [true, true, true, false, false, false, false, false, false, true, true, true, false, false] rfl <| L_law_b226_p hs k12 hk12 q35 i2 r6 r34 hf
  · refine Runs.icY (pc' := 260) d0_17 (flt hc1).2.1 (by decide) <| ?_
    obtain rfl := Option.some.inj hf
    exact Runs.iconst d0_260 ci_1 <| Runs.retZ (y := (1 : Int32)) d0_261 rfl ⟨by decide, by decide⟩ rfl rfl
theorem L_law_l12_p {C : Ctx} {sa : Nat} {z : Int32} {f : Int32 → Int32} (hs : ScrF C sa z f) {res : Int32} {NF : Nat} (n : Nat) (ob : Rec) (i2 : Int32) (hf : L_law_l12 NF z f n ob i2 = some res) : Runs C B0 10 2659 12 [vr sa, vr C.2.2.1, vi i2, vn, vn, vn, vn, vn, vn, vn, vn, vn, vn, vn] [] (C.2.2.1 + 1 + 9, (C.2.2.1, 9, ob) :: []) (fun v _ => v = (some (.int res))) := by
  induction n generalizing ob i2 with
  | zero => cases (show (none : Option (Int32)) = some res from hf)
  | succ n ih => exact L_law_w12_p hs (L_law_l12 NF z f n) (fun ob i2 h => ih _ _ h) ob i2 hf
def L_law (NF : Nat) (z : Int32) (f : Int32 → Int32) : Option (Int32) :=
  (X_init (3 : Int32) (4 : Int32)).bind fun q45 =>
  L_law_l12 NF z f NF q45 (0 : Int32)
set_option maxRecDepth 65536 in
set_option maxHeartbeats 4000000 in
theorem L_law_p {C : Ctx} {sa : Nat} {z : Int32} {f : Int32 → Int32} (hs : ScrF C sa z f) {res : Int32} {NF : Nat} (hf : L_law NF z f = some res) : Runs C B0 0 0 0 [vr sa, vn, vn, vn, vn, vn, vn, vn, vn, vn, vn, vn, vn, vn] [] (C.2.2.1, []) (fun v _ => v = (some (.int res))) := by
  delta L_law at hf
  refine Runs.newK (k' := 1) (n' := 11) d0_0 w0 ⟨by decide, by decide⟩ rfl rfl (by intro x hx; cases hx) <| Runs.dup d0_3 rfl <| Runs.iconst d0_4 ci_3 <| Runs.iconst d0_5 ci_4 <| ?_
  refine bind_el hf fun q45 hg46 hf => ?_
  exact Runs.callI (N := B1) (k' := 10) (n' := 2659) (W := 1) (as := [.int (3 : Int32), .int (4 : Int32)]) (S' := [.ref C.2.2.1]) d0_6 rfl rfl w3 w4 cw1 ar1 (by decide) rfl rfl rfl rfl (X_init_pay hg46) <| ans0 <| Runs.astoreN (P' := [vr sa, vr C.2.2.1, vn, vn, vn, vn, vn, vn, vn, vn, vn, vn, vn, vn]) d0_9 (by decide) rfl <| Runs.iconst d0_10 ci_0 <| Runs.istoreN (P' := [vr sa, vr C.2.2.1, vi (0 : Int32), vn, vn, vn, vn, vn, vn, vn, vn, vn, vn, vn]) d0_11 (by decide) rfl <| L_law_l12_p hs NF q45 (0 : Int32) hf
theorem L_law_pay {C : Ctx} {sa : Nat} {z : Int32} {f : Int32 → Int32} (hs : ScrF C sa z f) {res : Int32} {NF : Nat} (hf : L_law NF z f = some res) : Pays C B0 [.ref sa] (C.2.2.1, []) (fun v _ => v = (some (.int res))) :=
  Pays.of pnL (Nat.le_of_ble_eq_true rfl) (P := [vr sa, vn, vn, vn, vn, vn, vn, vn, vn, vn, vn, vn, vn, vn]) 13 rfl (L_law_p hs hf)
--OWED--
theorem gI_sI (ob : Rec) (k j : Nat) (v : Int32) : gI (sI ob k v) j = if j = k then v else gI ob j := rfl
theorem gI_sA (ob : Rec) (k j : Nat) (i v : Int32) : gI (sA ob k i v) j = gI ob j := rfl
theorem gI_sJ (ob : Rec) (k j : Nat) (i : Int32) (v : Int64) : gI (sJ ob k i v) j = gI ob j := rfl
theorem gA_sI (ob : Rec) (k j : Nat) (v x : Int32) : gA (sI ob k v) j x = gA ob j x := rfl
theorem gA_sA (ob : Rec) (k j : Nat) (i v x : Int32) : gA (sA ob k i v) j x = if j = k ∧ x = i then v else gA ob j x := rfl
theorem gA_sJ (ob : Rec) (k j : Nat) (i x : Int32) (v : Int64) : gA (sJ ob k i v) j x = gA ob j x := rfl
theorem gJ_sI (ob : Rec) (k j : Nat) (v x : Int32) : gJ (sI ob k v) j x = gJ ob j x := rfl
theorem gJ_sA (ob : Rec) (k j : Nat) (i v x : Int32) : gJ (sA ob k i v) j x = gJ ob j x := rfl
theorem gJ_sJ (ob : Rec) (k j : Nat) (i x : Int32) (v : Int64) : gJ (sJ ob k i v) j x = if j = k ∧ x = i then v else gJ ob j x := rfl
theorem gI_z (k : Nat) : gI zrec k = 0 := rfl
theorem gA_z (k : Nat) (i : Int32) : gA zrec k i = 0 := rfl
theorem gJ_z (k : Nat) (i : Int32) : gJ zrec k i = 0 := rfl
theorem chk_ok {γ : Type} {n i : Int32} {A : Option γ} (h : 0 ≤ i.toInt ∧ i.toInt < n.toInt) : chk n i A = A := by
  have h0 : ¬ i < 0 := by rw [Int32.lt_iff_toInt_lt]; show ¬ i.toInt < 0; omega
  have h1 : i < n := by rw [Int32.lt_iff_toInt_lt]; exact h.2
  unfold chk; rw [if_neg h0, if_pos h1]
theorem lt_i {x y : Int32} : x < y ↔ x.toInt < y.toInt := Int32.lt_iff_toInt_lt
theorem le_i {x y : Int32} : x ≤ y ↔ x.toInt ≤ y.toInt := Int32.le_iff_toInt_le
theorem eq_i32 {x y : Int32} : x = y ↔ x.toInt = y.toInt := Int32.toInt_inj.symm
theorem bm_id {n : Int} (h : -2147483648 ≤ n ∧ n < 2147483648) : n.bmod (2 ^ 32) = n := Int.bmod_eq_of_le (by omega) (by omega)
theorem ad {x y : Int32} (h : -2147483648 ≤ x.toInt + y.toInt ∧ x.toInt + y.toInt < 2147483648) : (x + y).toInt = x.toInt + y.toInt := by rw [Int32.toInt_add, bm_id h]
theorem sb {x y : Int32} (h : -2147483648 ≤ x.toInt - y.toInt ∧ x.toInt - y.toInt < 2147483648) : (x - y).toInt = x.toInt - y.toInt := by rw [Int32.toInt_sub, bm_id h]
theorem ml {x y : Int32} (h : -2147483648 ≤ x.toInt * y.toInt ∧ x.toInt * y.toInt < 2147483648) : (x * y).toInt = x.toInt * y.toInt := by rw [Int32.toInt_mul, bm_id h]
def CInv (ob : Rec) : Prop := 2 ≤ (gI ob 0).toInt ∧ (gI ob 0).toInt ≤ 8 ∧ 1 ≤ (gI ob 1).toInt ∧ (gI ob 1).toInt ≤ 8 ∧ (∀ o, 0 ≤ (gA ob 0 o).toInt ∧ (gA ob 0 o).toInt ≤ (gI ob 1).toInt) ∧ (∀ i, 0 ≤ (gA ob 5 i).toInt ∧ (gA ob 5 i).toInt ≤ 3) ∧ (∀ i, gA ob 1 i = 0 ∨ gA ob 1 i = 1)
/-- scalars and the arrays that CInv speaks of are as they were -/
def CSame (ob ob' : Rec) : Prop := ob'.1 = ob.1 ∧ (∀ i, gA ob' 0 i = gA ob 0 i) ∧ (∀ i, gA ob' 1 i = gA ob 1 i) ∧ (∀ i, gA ob' 5 i = gA ob 5 i)
theorem CSame.refl (ob : Rec) : CSame ob ob := ⟨rfl, fun _ => rfl, fun _ => rfl, fun _ => rfl⟩
theorem CSame.trans {a b c : Rec} (h : CSame a b) (g : CSame b c) : CSame a c := ⟨g.1.trans h.1, fun i => (g.2.1 i).trans (h.2.1 i), fun i => (g.2.2.1 i).trans (h.2.2.1 i), fun i => (g.2.2.2 i).trans (h.2.2.2 i)⟩
theorem CSame.n {a b : Rec} (h : CSame a b) (k : Nat) : gI b k = gI a k := by unfold gI; rw [h.1]
theorem CSame.inv {a b : Rec} (h : CSame a b) (i : CInv a) : CInv b := by
  obtain ⟨i1, i2, i3, i4, i5, i6, i7⟩ := i
  unfold CInv
  rw [h.n 0, h.n 1]
  exact ⟨i1, i2, i3, i4, fun o => by rw [h.2.1]; exact i5 o, fun o => by rw [h.2.2.2]; exact i6 o, fun o => by rw [h.2.2.1]; exact i7 o⟩
theorem CSame.sA {a : Rec} (k : Nat) (i v : Int32) (h : k ≠ 0 ∧ k ≠ 1 ∧ k ≠ 5) : CSame a (sA a k i v) := by
  refine ⟨rfl, fun x => ?_, fun x => ?_, fun x => ?_⟩ <;> (rw [gA_sA, if_neg]; rintro ⟨e, -⟩; omega)
theorem t0 : (0 : Int32).toInt = 0 := rfl
theorem t1 : (1 : Int32).toInt = 1 := rfl
theorem t2 : (2 : Int32).toInt = 2 := rfl
theorem t3 : (3 : Int32).toInt = 3 := rfl
theorem t8 : (8 : Int32).toInt = 8 := rfl
theorem t16 : (16 : Int32).toInt = 16 := rfl
theorem t64 : (64 : Int32).toInt = 64 := rfl
theorem t65 : (65 : Int32).toInt = 65 := rfl
theorem t512 : (512 : Int32).toInt = 512 := rfl
theorem ix8 {p o : Int32} (hp : 0 ≤ p.toInt ∧ p.toInt < 64) (ho : 0 ≤ o.toInt ∧ o.toInt < 64) : (p * 8 + o).toInt = p.toInt * 8 + o.toInt := by
  have e : (p * 8).toInt = p.toInt * 8 := by rw [ml (by rw [t8]; omega), t8]
  rw [ad (by omega), e]
theorem ix64 {p o : Int32} (hp : 0 ≤ p.toInt ∧ p.toInt < 64) (ho : 0 ≤ o.toInt ∧ o.toInt < 64) : (p * 64 + o).toInt = p.toInt * 64 + o.toInt := by
  have e : (p * 64).toInt = p.toInt * 64 := by rw [ml (by rw [t64]; omega), t64]
  rw [ad (by omega), e]
theorem ix3 {p q o : Int32} (hp : 0 ≤ p.toInt ∧ p.toInt < 64) (hq : 0 ≤ q.toInt ∧ q.toInt < 64) (ho : 0 ≤ o.toInt ∧ o.toInt < 64) : (p * 64 + q * 8 + o).toInt = p.toInt * 64 + q.toInt * 8 + o.toInt := by
  have e : (p * 64).toInt = p.toInt * 64 := by rw [ml (by rw [t64]; omega), t64]
  have e' : (q * 8).toInt = q.toInt * 8 := by rw [ml (by rw [t8]; omega), t8]
  have e2 : (p * 64 + q * 8).toInt = p.toInt * 64 + q.toInt * 8 := by rw [ad (by omega), e, e']
  rw [ad (by omega), e2]
theorem ixm {o s : Int32} (ho : 0 ≤ o.toInt ∧ o.toInt < 64) (hs : 1 ≤ s.toInt ∧ s.toInt < 64) : (o * 8 + s - 1).toInt = o.toInt * 8 + s.toInt - 1 := by
  have e := ix8 ho (o := s) ⟨by omega, hs.2⟩
  rw [sb (by rw [t1]; omega), e, t1]
theorem ixs {p o s : Int32} (hp : 0 ≤ p.toInt ∧ p.toInt < 64) (ho : 0 ≤ o.toInt ∧ o.toInt < 64) (hs : 1 ≤ s.toInt ∧ s.toInt < 64) : (p * 64 + o * 8 + s - 1).toInt = p.toInt * 64 + o.toInt * 8 + s.toInt - 1 := by
  have e := ix3 hp ho (o := s) ⟨by omega, hs.2⟩
  rw [sb (by rw [t1]; omega), e, t1]
theorem ixc {o s d : Int32} (ho : 0 ≤ o.toInt ∧ o.toInt < 8) (hs : 1 ≤ s.toInt ∧ s.toInt ≤ 8) (hd : 0 ≤ d.toInt ∧ d.toInt < 64) : ((o * 8 + s - 1) * 8 + d).toInt = (o.toInt * 8 + s.toInt - 1) * 8 + d.toInt := by
  have e := ixm (o := o) (s := s) (by omega) (by omega)
  rw [ix8 (by omega) hd, e]
theorem vp_in {ob : Rec} {p : Int32} (h : 0 ≤ p.toInt ∧ p.toInt < (gI ob 0).toInt) : X_validProc ob p = some 1 := by
  have h0 : ¬ p < 0 := by rw [lt_i, t0]; omega
  have h1 : p < gI ob 0 := by rw [lt_i]; omega
  unfold X_validProc; rw [if_neg h0, if_pos h1]
theorem vp_out {ob : Rec} {p : Int32} (h : ¬ (0 ≤ p.toInt ∧ p.toInt < (gI ob 0).toInt)) : X_validProc ob p = some 0 := by
  unfold X_validProc
  by_cases h0 : p < 0
  · rw [if_pos h0]
  · have h1 : ¬ p < gI ob 0 := by rw [lt_i]; rw [lt_i, t0] at h0; omega
    rw [if_neg h0, if_neg h1]
def ExP (ob : Rec) (o s : Int32) : Prop := 0 ≤ o.toInt ∧ o.toInt < (gI ob 0).toInt ∧ 1 ≤ s.toInt ∧ s.toInt ≤ (gA ob 0 o).toInt
theorem ex_in {ob : Rec} {o s : Int32} (i : CInv ob) (h : ExP ob o s) : X_exists ob o s = some 1 := by
  obtain ⟨h1, h2, h3, h4⟩ := h
  have a0 : ¬ o < 0 := by rw [lt_i, t0]; omega
  have a1 : o < gI ob 0 := by rw [lt_i]; omega
  have a2 : ¬ s < 1 := by rw [lt_i, t1]; omega
  have a3 : ¬ gA ob 0 o < s := by rw [lt_i]; omega
  unfold X_exists; rw [if_neg a0, if_pos a1, if_neg a2, chk_ok (by have := i.2.1; rw [t8]; omega), if_neg a3]
theorem ex_out {ob : Rec} {o s : Int32} (i : CInv ob) (h : ¬ ExP ob o s) : X_exists ob o s = some 0 := by
  unfold ExP at h
  unfold X_exists
  by_cases a0 : o < 0
  · rw [if_pos a0]
  · by_cases a1 : o < gI ob 0
    · by_cases a2 : s < 1
      · rw [if_neg a0, if_pos a1, if_pos a2]
      · rw [lt_i] at a1
        rw [lt_i, t0] at a0
        have a3 : gA ob 0 o < s := by rw [lt_i]; rw [lt_i, t1] at a2; omega
        have a0' : ¬ o < 0 := by rw [lt_i, t0]; exact a0
        have a1' : o < gI ob 0 := by rw [lt_i]; exact a1
        rw [if_neg a0', if_pos a1', if_neg a2, chk_ok (by have := i.2.1; rw [t8]; omega), if_pos a3]
    · rw [if_neg a0, if_neg a1]
theorem ex_bd {ob : Rec} {o s : Int32} (i : CInv ob) (h : ExP ob o s) : 0 ≤ o.toInt ∧ o.toInt < 8 ∧ 1 ≤ s.toInt ∧ s.toInt ≤ 8 := by
  obtain ⟨h1, h2, h3, h4⟩ := h
  obtain ⟨i1, i2, i3, i4, i5, -⟩ := i
  have := i5 o
  omega
theorem dl_ok {ob : Rec} {p o s : Int32} (hp : 0 ≤ p.toInt ∧ p.toInt < 8) (ho : 0 ≤ o.toInt ∧ o.toInt < 8) (hs : 1 ≤ s.toInt ∧ s.toInt ≤ 8) : ∃ ob', X_deliverAt ob p o s = some ob' ∧ CSame ob ob' := by
  have e1 := ixs (p := p) (o := o) (s := s) (by omega) (by omega) (by omega)
  have e2 := ix8 (p := p) (o := o) (by omega) (by omega)
  have e3 := ix3 (p := p) (q := p) (o := o) (by omega) (by omega) (by omega)
  have q512 : ∀ A : Option Rec, chk 512 (p * 64 + o * 8 + s - 1) A = A := fun A => chk_ok (by rw [t512]; omega)
  have q64 : ∀ A : Option Rec, chk 64 (p * 8 + o) A = A := fun A => chk_ok (by rw [t64]; omega)
  have q8 : ∀ A : Option Rec, chk 8 p A = A := fun A => chk_ok (by rw [t8]; omega)
  have qk : ∀ A : Option Rec, chk 512 (p * 64 + p * 8 + o) A = A := fun A => chk_ok (by rw [t512]; omega)
  unfold X_deliverAt X_stateIndex
  simp only [Option.bind_some, q512, q64, q8]
  by_cases c1 : gA ob 8 p < 0
  · rw [if_pos c1]
    unfold X_deliverAt_b89 X_knownIndex
    simp only [Option.bind_some, q64, qk]
    exact ⟨_, rfl, ((CSame.sA _ _ _ (by omega)).trans (CSame.sA _ _ _ (by omega))).trans (CSame.sA _ _ _ (by omega))⟩
  · rw [if_neg c1]
    by_cases c2 : gA ob 8 p < 64
    · rw [if_pos c2]
      have e4 := ix64 (p := p) (o := gA ob 8 p) (by omega) (by rw [lt_i, t0] at c1; rw [lt_i, t64] at c2; omega)
      have qq : ∀ A : Option Rec, chk 512 (p * 64 + gA ob 8 p) A = A := fun A => chk_ok (by rw [lt_i, t0] at c1; rw [lt_i, t64] at c2; rw [t512]; omega)
      unfold X_deliverAt_b89 X_knownIndex
      simp only [Option.bind_some, q64, qk, qq]
      exact ⟨_, rfl, ((((CSame.sA _ _ _ (by omega)).trans (CSame.sA _ _ _ (by omega))).trans (CSame.sA _ _ _ (by omega))).trans (CSame.sA _ _ _ (by omega))).trans (CSame.sA _ _ _ (by omega))⟩
    · rw [if_neg c2]
      unfold X_deliverAt_b89 X_knownIndex
      simp only [Option.bind_some, q64, qk]
      exact ⟨_, rfl, ((CSame.sA _ _ _ (by omega)).trans (CSame.sA _ _ _ (by omega))).trans (CSame.sA _ _ _ (by omega))⟩
theorem CInv.copy {ob : Rec} (i : CInv ob) {x v : Int32} (hv : 0 ≤ v.toInt ∧ v.toInt ≤ 3) : CInv (sA ob 5 x v) := by
  obtain ⟨i1, i2, i3, i4, i5, i6, i7⟩ := i
  refine ⟨i1, i2, i3, i4, fun o => by rw [gA_sA, if_neg (by rintro ⟨e, -⟩; omega)]; exact i5 o, fun o => ?_, fun o => by rw [gA_sA, if_neg (by rintro ⟨e, -⟩; omega)]; exact i7 o⟩
  rw [gA_sA]
  split
  · exact hv
  · exact i6 o
theorem succ8 {i : Int32} (h : 0 ≤ i.toInt ∧ i.toInt < 1000) : (i + 1).toInt = i.toInt + 1 := by rw [ad (by rw [t1]; omega), t1]
theorem bc125 (NF : Nat) (p s r : Int32) (hr : 0 ≤ r.toInt ∧ r.toInt < 64) : ∀ (m fuel : Nat) (ob : Rec) (i : Int32), m < fuel → CInv ob → 0 ≤ i.toInt → i.toInt ≤ (gI ob 0).toInt → (gI ob 0).toInt - i.toInt ≤ m → ∃ ob', X_broadcast_l125 NF fuel ob p s r i = some (s, ob') ∧ CInv ob' := by
  intro m
  induction m with
  | zero =>
    intro fuel ob i hf hi h0 h1 h2
    obtain ⟨n, rfl⟩ : ∃ n, fuel = n + 1 := ⟨fuel - 1, by omega⟩
    have hc : ¬ i < gI ob 0 := by rw [lt_i]; omega
    exact ⟨ob, by show X_broadcast_w125 NF _ ob p s r i = _; unfold X_broadcast_w125; rw [if_neg hc], hi⟩
  | succ m ih =>
    intro fuel ob i hf hi h0 h1 h2
    obtain ⟨n, rfl⟩ : ∃ n, fuel = n + 1 := ⟨fuel - 1, by omega⟩
    by_cases hc : i < gI ob 0
    · have hlt : i.toInt < (gI ob 0).toInt := lt_i.mp hc
      have hn := hi.2.1
      have ei := succ8 (i := i) (by omega)
      have ex := ix8 (p := r) (o := i) (by omega) (by omega)
      have q : ∀ A : Option (Int32 × Rec), chk 512 (r * 8 + i) A = A := fun A => chk_ok (by rw [t512]; omega)
      by_cases c : i = p
      · obtain ⟨ob', e, hi'⟩ := ih n (sA ob 5 (r * 8 + i) 0) (i + 1) (by omega) (hi.copy (by decide)) (by omega) (by show _ ≤ (gI ob 0).toInt; omega) (by show (gI ob 0).toInt - _ ≤ _; omega)
        refine ⟨ob', ?_, hi'⟩
        show X_broadcast_w125 NF _ ob p s r i = _
        unfold X_broadcast_w125; rw [if_pos hc, if_pos c, q]; exact e
      · obtain ⟨ob', e, hi'⟩ := ih n (sA ob 5 (r * 8 + i) 1) (i + 1) (by omega) (hi.copy (by decide)) (by omega) (by show _ ≤ (gI ob 0).toInt; omega) (by show (gI ob 0).toInt - _ ≤ _; omega)
        refine ⟨ob', ?_, hi'⟩
        show X_broadcast_w125 NF _ ob p s r i = _
        unfold X_broadcast_w125; rw [if_pos hc, if_neg c, q]; exact e
    · exact ⟨ob, by show X_broadcast_w125 NF _ ob p s r i = _; unfold X_broadcast_w125; rw [if_neg hc], hi⟩
theorem bc64 (NF : Nat) (hNF : 8 < NF) (p s r : Int32) (hp : 0 ≤ p.toInt ∧ p.toInt < 8) (hs : 1 ≤ s.toInt ∧ s.toInt ≤ 8) (hr : 0 ≤ r.toInt ∧ r.toInt < 64) : ∀ (m fuel : Nat) (ob : Rec) (i : Int32), m < fuel → CInv ob → 0 ≤ i.toInt → i.toInt ≤ (gI ob 0).toInt → (gI ob 0).toInt - i.toInt ≤ m → ∃ ob', X_broadcast_l64 NF fuel ob p s r i = some (s, ob') ∧ CInv ob' := by
  have fin : ∀ (ob : Rec), CInv ob → ∃ ob', (chk (512 : Int32) ((r * (8 : Int32)) + p) <| (X_deliverAt (sA ob 4 ((r * (8 : Int32)) + p) s) p p s).bind fun q5 => X_broadcast_l125 NF NF q5 p s r (0 : Int32)) = some (s, ob') ∧ CInv ob' := by
    intro ob hi
    have ex := ix8 (p := r) (o := p) (by omega) (by omega)
    rw [chk_ok (by rw [t512]; omega)]
    obtain ⟨o1, e1, s1⟩ := dl_ok (ob := sA ob 4 (r * 8 + p) s) hp hp hs
    have h1 : CInv o1 := s1.inv ((CSame.sA _ _ _ (by omega)).inv hi)
    rw [e1, Option.bind_some]
    have hn := h1.2.1
    have hn' := h1.1
    exact bc125 NF p s r hr 8 NF o1 0 hNF h1 (by decide) (by rw [t0]; omega) (by rw [t0]; omega)
  intro m
  induction m with
  | zero =>
    intro fuel ob i hf hi h0 h1 h2
    obtain ⟨n, rfl⟩ : ∃ n, fuel = n + 1 := ⟨fuel - 1, by omega⟩
    have hc : ¬ i < gI ob 0 := by rw [lt_i]; omega
    obtain ⟨ob', e, hi'⟩ := fin ob hi
    exact ⟨ob', by show X_broadcast_w64 NF _ ob p s r i = _; unfold X_broadcast_w64; rw [if_neg hc]; exact e, hi'⟩
  | succ m ih =>
    intro fuel ob i hf hi h0 h1 h2
    obtain ⟨n, rfl⟩ : ∃ n, fuel = n + 1 := ⟨fuel - 1, by omega⟩
    by_cases hc : i < gI ob 0
    · have hlt : i.toInt < (gI ob 0).toInt := lt_i.mp hc
      have hn := hi.2.1
      have ei := succ8 (i := i) (by omega)
      have ex := ix8 (p := r) (o := i) (by omega) (by omega)
      have ey := ix8 (p := p) (o := i) (by omega) (by omega)
      obtain ⟨ob', e, hi'⟩ := ih n (sA ob 4 (r * 8 + i) (gA ob 2 (p * 8 + i))) (i + 1) (by omega) ((CSame.sA _ _ _ (by omega)).inv hi) (by omega) (by show _ ≤ (gI ob 0).toInt; omega) (by show (gI ob 0).toInt - _ ≤ _; omega)
      refine ⟨ob', ?_, hi'⟩
      show X_broadcast_w64 NF _ ob p s r i = _
      unfold X_broadcast_w64; rw [if_pos hc, chk_ok (by rw [t64]; omega), chk_ok (by rw [t512]; omega)]; exact e
    · obtain ⟨ob', e, hi'⟩ := fin ob hi
      exact ⟨ob', by show X_broadcast_w64 NF _ ob p s r i = _; unfold X_broadcast_w64; rw [if_neg hc]; exact e, hi'⟩
/-- broadcast: refused with the object as it was, or a number of at least 1 -/
theorem bc_ok (NF : Nat) (hNF : 8 < NF) (ob : Rec) (p : Int32) (hi : CInv ob) : ∃ r ob', X_broadcast NF ob p = some (r, ob') ∧ CInv ob' ∧ ((r.toInt < 0 ∧ ob' = ob) ∨ r = gA ob 0 p + 1 ∧ 1 ≤ r.toInt) := by
  unfold X_broadcast
  by_cases v : 0 ≤ p.toInt ∧ p.toInt < (gI ob 0).toInt
  · have hn := hi.2.1
    rw [vp_in v, Option.bind_some, if_neg (by decide)]
    have q8 : ∀ A : Option (Int32 × Rec), chk 8 p A = A := fun A => chk_ok (by rw [t8]; omega)
    simp only [q8]
    by_cases c1 : gA ob 1 p = 0
    · rw [if_pos c1]
      by_cases c2 : gA ob 0 p < gI ob 1
      · rw [if_pos c2]
        have hs := hi.2.2.2.2.1 p
        have hcap := hi.2.2.2.1
        rw [lt_i] at c2
        have es := succ8 (i := gA ob 0 p) (by omega)
        have em := ixm (o := p) (s := gA ob 0 p + 1) (by omega) (by omega)
        have h1 : CInv (sA ob 0 p (gA ob 0 p + 1)) := by
          obtain ⟨i1, i2, i3, i4, i5, i6, i7⟩ := hi
          refine ⟨i1, i2, i3, i4, fun o => ?_, fun o => by rw [gA_sA, if_neg (by rintro ⟨e, -⟩; omega)]; exact i6 o, fun o => by rw [gA_sA, if_neg (by rintro ⟨e, -⟩; omega)]; exact i7 o⟩
          rw [gA_sA]
          split
          · rw [es]; show _ ∧ _ ≤ (gI ob 1).toInt; omega
          · exact i5 o
        unfold X_msgIndex
        rw [Option.bind_some]
        obtain ⟨ob', e, h2⟩ := bc64 NF hNF p (gA ob 0 p + 1) (p * 8 + (gA ob 0 p + 1) - 1) (by omega) (by omega) (by omega) 8 NF (sA ob 0 p (gA ob 0 p + 1)) 0 hNF h1 (by decide) (by rw [t0]; have := h1.1; omega) (by rw [t0]; have := h1.2.1; omega)
        exact ⟨_, ob', e, h2, Or.inr ⟨rfl, by omega⟩⟩
      · rw [if_neg c2]; exact ⟨_, ob, rfl, hi, Or.inl ⟨by decide, rfl⟩⟩
    · rw [if_neg c1]; exact ⟨_, ob, rfl, hi, Or.inl ⟨by decide, rfl⟩⟩
  · rw [vp_out v, Option.bind_some, if_pos rfl]; exact ⟨_, ob, rfl, hi, Or.inl ⟨by decide, rfl⟩⟩
theorem isd63 (NF : Nat) (ob : Rec) (hi : CInv ob) (p o r : Int32) (hp : 0 ≤ p.toInt ∧ p.toInt < 8) (hr : 0 ≤ r.toInt ∧ r.toInt < 64) : ∀ (m fuel : Nat) (i : Int32), m < fuel → 0 ≤ i.toInt → i.toInt ≤ (gI ob 0).toInt → (gI ob 0).toInt - i.toInt ≤ m → ∃ v, X_isDeliverable_l63 NF ob fuel p o r i = some v ∧ (v = 0 ∨ v = 1) := by
  intro m
  induction m with
  | zero =>
    intro fuel i hf h0 h1 h2
    obtain ⟨n, rfl⟩ : ∃ n, fuel = n + 1 := ⟨fuel - 1, by omega⟩
    have hc : ¬ i < gI ob 0 := by rw [lt_i]; omega
    exact ⟨1, by show X_isDeliverable_w63 NF ob _ p o r i = _; unfold X_isDeliverable_w63; rw [if_neg hc], Or.inr rfl⟩
  | succ m ih =>
    intro fuel i hf h0 h1 h2
    obtain ⟨n, rfl⟩ : ∃ n, fuel = n + 1 := ⟨fuel - 1, by omega⟩
    by_cases hc : i < gI ob 0
    · have hlt : i.toInt < (gI ob 0).toInt := lt_i.mp hc
      have hn := hi.2.1
      have ei := succ8 (i := i) (by omega)
      have ex := ix8 (p := r) (o := i) (by omega) (by omega)
      have ey := ix8 (p := p) (o := i) (by omega) (by omega)
      obtain ⟨v, e, hv⟩ := ih n (i + 1) (by omega) (by omega) (by omega) (by omega)
      by_cases c : i = o
      · exact ⟨v, by show X_isDeliverable_w63 NF ob _ p o r i = _; unfold X_isDeliverable_w63; rw [if_pos hc, if_pos c]; exact e, hv⟩
      · by_cases c2 : gA ob 2 (p * 8 + i) < gA ob 4 (r * 8 + i)
        · exact ⟨0, by show X_isDeliverable_w63 NF ob _ p o r i = _; unfold X_isDeliverable_w63; rw [if_pos hc, if_neg c, chk_ok (by rw [t512]; omega), chk_ok (by rw [t64]; omega), if_pos c2], Or.inl rfl⟩
        · exact ⟨v, by show X_isDeliverable_w63 NF ob _ p o r i = _; unfold X_isDeliverable_w63; rw [if_pos hc, if_neg c, chk_ok (by rw [t512]; omega), chk_ok (by rw [t64]; omega), if_neg c2]; exact e, hv⟩
    · exact ⟨1, by show X_isDeliverable_w63 NF ob _ p o r i = _; unfold X_isDeliverable_w63; rw [if_neg hc], Or.inr rfl⟩
theorem isd_ok (NF : Nat) (hNF : 8 < NF) (ob : Rec) (hi : CInv ob) (p o s : Int32) (hp : 0 ≤ p.toInt ∧ p.toInt < 8) : ∃ v, X_isDeliverable NF ob p o s = some v ∧ (v = 0 ∨ v = 1 ∧ ExP ob o s) := by
  unfold X_isDeliverable
  by_cases h : ExP ob o s
  · have b := ex_bd hi h
    have e1 := ixs (p := p) (o := o) (s := s) (by omega) (by omega) (by omega)
    have e2 := ix8 (p := p) (o := o) (by omega) (by omega)
    have e3 := ixm (o := o) (s := s) (by omega) (by omega)
    rw [ex_in hi h, Option.bind_some, if_neg (by decide)]
    unfold X_stateIndex X_msgIndex
    simp only [Option.bind_some]
    rw [chk_ok (by rw [t512]; omega)]
    by_cases c1 : gA ob 3 (p * 64 + o * 8 + s - 1) = 1
    · rw [if_pos c1, chk_ok (by rw [t64]; omega)]
      by_cases c2 : s = gA ob 2 (p * 8 + o) + 1
      · rw [if_pos c2]
        obtain ⟨v, e, hv⟩ := isd63 NF ob hi p o (o * 8 + s - 1) hp (by omega) 8 NF 0 hNF (by decide) (by rw [t0]; have := hi.1; omega) (by rw [t0]; have := hi.2.1; omega)
        exact ⟨v, e, hv.imp id fun u => ⟨u, h⟩⟩
      · rw [if_neg c2]; exact ⟨0, rfl, Or.inl rfl⟩
    · rw [if_neg c1]; exact ⟨0, rfl, Or.inl rfl⟩
  · rw [ex_out hi h, Option.bind_some, if_pos rfl]; exact ⟨0, rfl, Or.inl rfl⟩
theorem cas19 (NF : Nat) (hNF : 8 < NF) (k4 : Rec → Int32 → Int32 → Int32 → Option (Int32 × Rec)) (ob : Rec) (hi : CInv ob) (p c i3 : Int32) (hp : 0 ≤ p.toInt ∧ p.toInt < 8) (hc : 0 ≤ c.toInt)
    (hk : ∀ ob', CSame ob ob' → ∃ r ob'', k4 ob' p (c + 1) (i3 + 1) = some (r, ob'') ∧ CSame ob ob'' ∧ 0 ≤ r.toInt) : ∀ (m fuel : Nat) (i5 i : Int32), m < fuel → 0 ≤ i.toInt → i.toInt ≤ (gI ob 0).toInt → (gI ob 0).toInt - i.toInt ≤ m → ∃ r ob'', X_cascade_l19 NF k4 fuel ob p c i3 (-1) i5 i = some (r, ob'') ∧ CSame ob ob'' ∧ 0 ≤ r.toInt := by
  intro m
  induction m with
  | zero =>
    intro fuel i5 i hf h0 h1 h2
    obtain ⟨n, rfl⟩ : ∃ n, fuel = n + 1 := ⟨fuel - 1, by omega⟩
    have hl : ¬ i < gI ob 0 := by rw [lt_i]; omega
    refine ⟨c, ob, ?_, CSame.refl _, hc⟩
    show X_cascade_w19 NF k4 _ ob p c i3 (-1) i5 i = _
    unfold X_cascade_w19 X_cascade_b73; rw [if_neg hl, if_pos (by decide)]
  | succ m ih =>
    intro fuel i5 i hf h0 h1 h2
    obtain ⟨n, rfl⟩ : ∃ n, fuel = n + 1 := ⟨fuel - 1, by omega⟩
    by_cases hl : i < gI ob 0
    · have hlt : i.toInt < (gI ob 0).toInt := lt_i.mp hl
      have hn := hi.2.1
      have ei := succ8 (i := i) (by omega)
      have ey := ix8 (p := p) (o := i) (by omega) (by omega)
      obtain ⟨v, ev, hv⟩ := isd_ok NF hNF ob hi p i (gA ob 2 (p * 8 + i) + 1) hp
      rcases hv with rfl | ⟨rfl, hex⟩
      · obtain ⟨r, ob'', e, h⟩ := ih n i5 (i + 1) (by omega) (by omega) (by omega) (by omega)
        refine ⟨r, ob'', ?_, h⟩
        show X_cascade_w19 NF k4 _ ob p c i3 (-1) i5 i = _
        unfold X_cascade_w19; rw [if_pos hl, chk_ok (by rw [t64]; omega), ev, Option.bind_some, if_pos rfl]; exact e
      · have b := ex_bd hi hex
        obtain ⟨o1, e1, s1⟩ := dl_ok (ob := ob) (p := p) (o := i) (s := gA ob 2 (p * 8 + i) + 1) hp (by omega) (by omega)
        obtain ⟨r, ob'', e, h⟩ := hk o1 s1
        refine ⟨r, ob'', ?_, h⟩
        show X_cascade_w19 NF k4 _ ob p c i3 (-1) i5 i = _
        unfold X_cascade_w19 X_cascade_b73; rw [if_pos hl, chk_ok (by rw [t64]; omega), ev, Option.bind_some, if_neg (by decide), if_neg (by rw [lt_i, t0]; omega), e1, Option.bind_some]; exact e
    · refine ⟨c, ob, ?_, CSame.refl _, hc⟩
      show X_cascade_w19 NF k4 _ ob p c i3 (-1) i5 i = _
      unfold X_cascade_w19 X_cascade_b73; rw [if_neg hl, if_pos (by decide)]
theorem cas4 (NF : Nat) (hNF : 8 < NF) (p : Int32) (hp : 0 ≤ p.toInt ∧ p.toInt < 8) : ∀ (m fuel : Nat) (ob : Rec) (c i : Int32), m < fuel → CInv ob → 0 ≤ c.toInt → c.toInt ≤ i.toInt → i.toInt ≤ 65 → 65 - i.toInt ≤ m → ∃ r ob'', X_cascade_l4 NF fuel ob p c i = some (r, ob'') ∧ CSame ob ob'' ∧ 0 ≤ r.toInt := by
  intro m
  induction m with
  | zero =>
    intro fuel ob c i hf hi h0 h1 h2 h3
    obtain ⟨n, rfl⟩ : ∃ n, fuel = n + 1 := ⟨fuel - 1, by omega⟩
    have hl : ¬ i < 65 := by rw [lt_i, t65]; omega
    exact ⟨c, ob, by show X_cascade_w4 NF _ ob p c i = _; unfold X_cascade_w4; rw [if_neg hl], CSame.refl _, h0⟩
  | succ m ih =>
    intro fuel ob c i hf hi h0 h1 h2 h3
    obtain ⟨n, rfl⟩ : ∃ n, fuel = n + 1 := ⟨fuel - 1, by omega⟩
    by_cases hl : i < 65
    · rw [lt_i, t65] at hl
      have ei := succ8 (i := i) (by omega)
      have ec := succ8 (i := c) (by omega)
      obtain ⟨r, ob'', e, h⟩ := cas19 NF hNF (X_cascade_l4 NF n) ob hi p c i hp h0 (fun ob' s' => by
        obtain ⟨r, ob'', e, s2, h⟩ := ih n ob' (c + 1) (i + 1) (by omega) (s'.inv hi) (by omega) (by omega) (by omega) (by omega)
        exact ⟨r, ob'', e, s'.trans s2, h⟩) 8 NF 0 0 hNF (by decide) (by rw [t0]; have := hi.1; omega) (by rw [t0]; have := hi.2.1; omega)
      exact ⟨r, ob'', by show X_cascade_w4 NF _ ob p c i = _; unfold X_cascade_w4; rw [if_pos (by rw [lt_i, t65]; omega)]; exact e, h⟩
    · exact ⟨c, ob, by show X_cascade_w4 NF _ ob p c i = _; unfold X_cascade_w4; rw [if_neg hl], CSame.refl _, h0⟩
theorem cas_ok (NF : Nat) (hNF : 70 < NF) (ob : Rec) (hi : CInv ob) (p : Int32) (hp : 0 ≤ p.toInt ∧ p.toInt < 8) : ∃ r ob'', X_cascade NF ob p = some (r, ob'') ∧ CSame ob ob'' ∧ 0 ≤ r.toInt :=
  cas4 NF (by omega) p hp 65 NF ob 0 0 (by omega) hi (by decide) (by decide) (by decide) (by decide)
/-- what an operation may answer: refused with nothing changed, a duplicate, or a number that isn't negative -/
def COut (ob : Rec) (r : Int32) (ob' : Rec) : Prop := CInv ob' ∧ (r.toInt < 0 ∧ ob' = ob ∨ r = -5 ∨ 0 ≤ r.toInt)
theorem rcv_ok (NF : Nat) (hNF : 70 < NF) (ob : Rec) (hi : CInv ob) (d o s : Int32) : ∃ r ob', X_receive NF ob d o s = some (r, ob') ∧ COut ob r ob' := by
  unfold X_receive
  by_cases v : 0 ≤ d.toInt ∧ d.toInt < (gI ob 0).toInt
  · rw [vp_in v, Option.bind_some, if_neg (by decide)]
    by_cases h : ExP ob o s
    · have b := ex_bd hi h
      have hn := hi.2.1
      have e1 := ixs (p := d) (o := o) (s := s) (by omega) (by omega) (by omega)
      have e2 := ixc (o := o) (s := s) (d := d) (by omega) (by omega) (by omega)
      rw [ex_in hi h, Option.bind_some, if_neg (by decide)]
      have q512 : ∀ A : Option (Int32 × Rec), chk 512 (d * 64 + o * 8 + s - 1) A = A := fun A => chk_ok (by rw [t512]; omega)
      have qc : ∀ A : Option (Int32 × Rec), chk 512 ((o * 8 + s - 1) * 8 + d) A = A := fun A => chk_ok (by rw [t512]; omega)
      have q8 : ∀ A : Option (Int32 × Rec), chk 8 d A = A := fun A => chk_ok (by rw [t8]; omega)
      unfold X_copyIndex X_stateIndex
      simp only [Option.bind_some, q512, qc, q8]
      have hcp := hi.2.2.2.2.2.1 ((o * 8 + s - 1) * 8 + d)
      by_cases c1 : gA ob 1 d = 0
      · rw [if_pos c1]
        by_cases c2 : gA ob 5 ((o * 8 + s - 1) * 8 + d) = 0
        · rw [if_pos c2]; exact ⟨_, ob, rfl, hi, Or.inl ⟨by decide, rfl⟩⟩
        · rw [if_neg c2]
          rw [eq_i32, t0] at c2
          have es : (gA ob 5 ((o * 8 + s - 1) * 8 + d) - 1).toInt = (gA ob 5 ((o * 8 + s - 1) * 8 + d)).toInt - 1 := by rw [sb (by rw [t1]; omega), t1]
          have hi1 : CInv (sA ob 5 ((o * 8 + s - 1) * 8 + d) (gA ob 5 ((o * 8 + s - 1) * 8 + d) - 1)) := hi.copy (by omega)
          by_cases c3 : gA ob 3 (d * 64 + o * 8 + s - 1) = 0
          · rw [if_pos c3]
            obtain ⟨r, ob', e, sm, hr⟩ := cas_ok NF hNF (sA (sA ob 5 ((o * 8 + s - 1) * 8 + d) (gA ob 5 ((o * 8 + s - 1) * 8 + d) - 1)) 3 (d * 64 + o * 8 + s - 1) 1) ((CSame.sA _ _ _ (by omega)).inv hi1) d (by omega)
            refine ⟨r, ob', by rw [e]; rfl, sm.inv ((CSame.sA _ _ _ (by omega)).inv hi1), Or.inr (Or.inr hr)⟩
          · rw [if_neg c3]; exact ⟨_, _, rfl, hi1, Or.inr (Or.inl rfl)⟩
      · rw [if_neg c1]; exact ⟨_, ob, rfl, hi, Or.inl ⟨by decide, rfl⟩⟩
    · rw [ex_out hi h, Option.bind_some, if_pos rfl]; exact ⟨_, ob, rfl, hi, Or.inl ⟨by decide, rfl⟩⟩
  · rw [vp_out v, Option.bind_some, if_pos rfl]; exact ⟨_, ob, rfl, hi, Or.inl ⟨by decide, rfl⟩⟩
theorem dup_ok (ob : Rec) (hi : CInv ob) (o s d : Int32) : ∃ r ob', X_duplicate ob o s d = some (r, ob') ∧ COut ob r ob' := by
  unfold X_duplicate
  by_cases h : ExP ob o s
  · have b := ex_bd hi h
    have hn := hi.2.1
    rw [ex_in hi h, Option.bind_some, if_neg (by decide)]
    by_cases v : 0 ≤ d.toInt ∧ d.toInt < (gI ob 0).toInt
    · have e2 := ixc (o := o) (s := s) (d := d) (by omega) (by omega) (by omega)
      have qc : ∀ A : Option (Int32 × Rec), chk 512 ((o * 8 + s - 1) * 8 + d) A = A := fun A => chk_ok (by rw [t512]; omega)
      rw [vp_in v, Option.bind_some, if_neg (by decide)]
      unfold X_copyIndex
      simp only [Option.bind_some, qc]
      have hcp := hi.2.2.2.2.2.1 ((o * 8 + s - 1) * 8 + d)
      by_cases c2 : gA ob 5 ((o * 8 + s - 1) * 8 + d) = 0
      · rw [if_pos c2]; exact ⟨_, ob, rfl, hi, Or.inl ⟨by decide, rfl⟩⟩
      · rw [if_neg c2]
        by_cases c3 : gA ob 5 ((o * 8 + s - 1) * 8 + d) < 3
        · rw [if_pos c3]
          rw [lt_i, t3] at c3
          have es := succ8 (i := gA ob 5 ((o * 8 + s - 1) * 8 + d)) (by omega)
          refine ⟨_, _, rfl, hi.copy (by omega), Or.inr (Or.inr ?_)⟩
          rw [gA_sA, if_pos ⟨rfl, rfl⟩]; omega
        · rw [if_neg c3]; exact ⟨_, ob, rfl, hi, Or.inl ⟨by decide, rfl⟩⟩
    · rw [vp_out v, Option.bind_some, if_pos rfl]; exact ⟨_, ob, rfl, hi, Or.inl ⟨by decide, rfl⟩⟩
  · rw [ex_out hi h, Option.bind_some, if_pos rfl]; exact ⟨_, ob, rfl, hi, Or.inl ⟨by decide, rfl⟩⟩
theorem drop_ok (ob : Rec) (hi : CInv ob) (o s d : Int32) : ∃ r ob', X_drop ob o s d = some (r, ob') ∧ COut ob r ob' := by
  unfold X_drop
  by_cases h : ExP ob o s
  · have b := ex_bd hi h
    have hn := hi.2.1
    rw [ex_in hi h, Option.bind_some, if_neg (by decide)]
    by_cases v : 0 ≤ d.toInt ∧ d.toInt < (gI ob 0).toInt
    · have e2 := ixc (o := o) (s := s) (d := d) (by omega) (by omega) (by omega)
      have qc : ∀ A : Option (Int32 × Rec), chk 512 ((o * 8 + s - 1) * 8 + d) A = A := fun A => chk_ok (by rw [t512]; omega)
      rw [vp_in v, Option.bind_some, if_neg (by decide)]
      unfold X_copyIndex
      simp only [Option.bind_some, qc]
      have hcp := hi.2.2.2.2.2.1 ((o * 8 + s - 1) * 8 + d)
      by_cases c2 : gA ob 5 ((o * 8 + s - 1) * 8 + d) = 0
      · rw [if_pos c2]; exact ⟨_, ob, rfl, hi, Or.inl ⟨by decide, rfl⟩⟩
      · rw [if_neg c2]
        rw [eq_i32, t0] at c2
        have es : (gA ob 5 ((o * 8 + s - 1) * 8 + d) - 1).toInt = (gA ob 5 ((o * 8 + s - 1) * 8 + d)).toInt - 1 := by rw [sb (by rw [t1]; omega), t1]
        refine ⟨_, _, rfl, hi.copy (by omega), Or.inr (Or.inr ?_)⟩
        rw [gA_sA, if_pos ⟨rfl, rfl⟩]; omega
    · rw [vp_out v, Option.bind_some, if_pos rfl]; exact ⟨_, ob, rfl, hi, Or.inl ⟨by decide, rfl⟩⟩
  · rw [ex_out hi h, Option.bind_some, if_pos rfl]; exact ⟨_, ob, rfl, hi, Or.inl ⟨by decide, rfl⟩⟩
theorem rtx_ok (ob : Rec) (hi : CInv ob) (q p o s : Int32) : ∃ r ob', X_retransmit ob q p o s = some (r, ob') ∧ COut ob r ob' := by
  unfold X_retransmit
  have hn := hi.2.1
  by_cases v : 0 ≤ q.toInt ∧ q.toInt < (gI ob 0).toInt
  · rw [vp_in v, Option.bind_some, if_neg (by decide)]
    by_cases v2 : 0 ≤ p.toInt ∧ p.toInt < (gI ob 0).toInt
    · rw [vp_in v2, Option.bind_some, if_neg (by decide)]
      by_cases c : q = p
      · rw [if_pos c]; exact ⟨_, ob, rfl, hi, Or.inl ⟨by decide, rfl⟩⟩
      · rw [if_neg c]
        by_cases h : ExP ob o s
        · have b := ex_bd hi h
          have e1 := ixs (p := q) (o := o) (s := s) (by omega) (by omega) (by omega)
          have e2 := ixc (o := o) (s := s) (d := p) (by omega) (by omega) (by omega)
          rw [ex_in hi h, Option.bind_some, if_neg (by decide)]
          have q512 : ∀ A : Option (Int32 × Rec), chk 512 (q * 64 + o * 8 + s - 1) A = A := fun A => chk_ok (by rw [t512]; omega)
          have qc : ∀ A : Option (Int32 × Rec), chk 512 ((o * 8 + s - 1) * 8 + p) A = A := fun A => chk_ok (by rw [t512]; omega)
          have q8 : ∀ A : Option (Int32 × Rec), chk 8 q A = A := fun A => chk_ok (by rw [t8]; omega)
          have q8' : ∀ A : Option (Int32 × Rec), chk 8 p A = A := fun A => chk_ok (by rw [t8]; omega)
          unfold X_copyIndex X_stateIndex
          simp only [Option.bind_some, q512, qc, q8, q8']
          have hcp := hi.2.2.2.2.2.1 ((o * 8 + s - 1) * 8 + p)
          by_cases c1 : gA ob 1 q = 0
          · rw [if_pos c1]
            by_cases c2 : gA ob 1 p = 0
            · rw [if_pos c2]
              by_cases c3 : gA ob 3 (q * 64 + o * 8 + s - 1) = 2
              · rw [if_pos c3]
                by_cases c4 : gA ob 5 ((o * 8 + s - 1) * 8 + p) < 3
                · rw [if_pos c4]
                  rw [lt_i, t3] at c4
                  have es := succ8 (i := gA ob 5 ((o * 8 + s - 1) * 8 + p)) (by omega)
                  exact ⟨_, _, rfl, hi.copy (by omega), Or.inr (Or.inr (by decide))⟩
                · rw [if_neg c4]; exact ⟨_, ob, rfl, hi, Or.inl ⟨by decide, rfl⟩⟩
              · rw [if_neg c3]; exact ⟨_, ob, rfl, hi, Or.inl ⟨by decide, rfl⟩⟩
            · rw [if_neg c2]; exact ⟨_, ob, rfl, hi, Or.inl ⟨by decide, rfl⟩⟩
          · rw [if_neg c1]; exact ⟨_, ob, rfl, hi, Or.inl ⟨by decide, rfl⟩⟩
        · rw [ex_out hi h, Option.bind_some, if_pos rfl]; exact ⟨_, ob, rfl, hi, Or.inl ⟨by decide, rfl⟩⟩
    · rw [vp_out v2, Option.bind_some, if_pos rfl]; exact ⟨_, ob, rfl, hi, Or.inl ⟨by decide, rfl⟩⟩
  · rw [vp_out v, Option.bind_some, if_pos rfl]; exact ⟨_, ob, rfl, hi, Or.inl ⟨by decide, rfl⟩⟩
theorem gos57 (NF : Nat) (k46 : Rec → Int32 → Int32 → Int32 → Option (Int32 × Rec)) (a b r : Int32) (ha : 0 ≤ a.toInt ∧ a.toInt < 8) (hb : 0 ≤ b.toInt ∧ b.toInt < 8) (hr : 0 ≤ r.toInt ∧ r.toInt < 8) : ∀ (m fuel : Nat) (ob : Rec) (i : Int32), m < fuel → CInv ob → 0 ≤ i.toInt → i.toInt ≤ (gI ob 0).toInt → (gI ob 0).toInt - i.toInt ≤ m → ∃ ob', X_gossip_l57 NF k46 fuel ob a b r i = k46 ob' a b (r + 1) ∧ CSame ob ob' := by
  intro m
  induction m with
  | zero =>
    intro fuel ob i hf hi h0 h1 h2
    obtain ⟨n, rfl⟩ : ∃ n, fuel = n + 1 := ⟨fuel - 1, by omega⟩
    have hc : ¬ i < gI ob 0 := by rw [lt_i]; omega
    exact ⟨ob, by show X_gossip_w57 NF k46 _ ob a b r i = _; unfold X_gossip_w57; rw [if_neg hc], CSame.refl _⟩
  | succ m ih =>
    intro fuel ob i hf hi h0 h1 h2
    obtain ⟨n, rfl⟩ : ∃ n, fuel = n + 1 := ⟨fuel - 1, by omega⟩
    by_cases hc : i < gI ob 0
    · have hlt : i.toInt < (gI ob 0).toInt := lt_i.mp hc
      have hn := hi.2.1
      have ei := succ8 (i := i) (by omega)
      have ex := ix3 (p := a) (q := r) (o := i) (by omega) (by omega) (by omega)
      have ey := ix3 (p := b) (q := r) (o := i) (by omega) (by omega) (by omega)
      have qa : ∀ A : Option (Int32 × Rec), chk 512 (a * 64 + r * 8 + i) A = A := fun A => chk_ok (by rw [t512]; omega)
      have qb : ∀ A : Option (Int32 × Rec), chk 512 (b * 64 + r * 8 + i) A = A := fun A => chk_ok (by rw [t512]; omega)
      by_cases c : gA ob 6 (b * 64 + r * 8 + i) < gA ob 6 (a * 64 + r * 8 + i)
      · have sm : CSame ob (sA ob 6 (b * 64 + r * 8 + i) (gA ob 6 (a * 64 + r * 8 + i))) := CSame.sA _ _ _ (by omega)
        obtain ⟨ob', e, s'⟩ := ih n (sA ob 6 (b * 64 + r * 8 + i) (gA ob 6 (a * 64 + r * 8 + i))) (i + 1) (by omega) (sm.inv hi) (by omega) (by show _ ≤ (gI ob 0).toInt; omega) (by show (gI ob 0).toInt - _ ≤ _; omega)
        refine ⟨ob', ?_, sm.trans s'⟩
        show X_gossip_w57 NF k46 _ ob a b r i = _
        unfold X_gossip_w57; simp only [qa, qb]; rw [if_pos hc, if_pos c]; exact e
      · obtain ⟨ob', e, s'⟩ := ih n ob (i + 1) (by omega) hi (by omega) (by omega) (by omega)
        refine ⟨ob', ?_, s'⟩
        show X_gossip_w57 NF k46 _ ob a b r i = _
        unfold X_gossip_w57; simp only [qa, qb]; rw [if_pos hc, if_neg c]; exact e
    · exact ⟨ob, by show X_gossip_w57 NF k46 _ ob a b r i = _; unfold X_gossip_w57; rw [if_neg hc], CSame.refl _⟩
theorem gos46 (NF : Nat) (hNF : 8 < NF) (a b : Int32) (ha : 0 ≤ a.toInt ∧ a.toInt < 8) (hb : 0 ≤ b.toInt ∧ b.toInt < 8) : ∀ (m fuel : Nat) (ob : Rec) (i : Int32), m < fuel → CInv ob → 0 ≤ i.toInt → i.toInt ≤ (gI ob 0).toInt → (gI ob 0).toInt - i.toInt ≤ m → ∃ ob', X_gossip_l46 NF fuel ob a b i = some (0, ob') ∧ CSame ob ob' := by
  intro m
  induction m with
  | zero =>
    intro fuel ob i hf hi h0 h1 h2
    obtain ⟨n, rfl⟩ : ∃ n, fuel = n + 1 := ⟨fuel - 1, by omega⟩
    have hc : ¬ i < gI ob 0 := by rw [lt_i]; omega
    exact ⟨ob, by show X_gossip_w46 NF _ ob a b i = _; unfold X_gossip_w46; rw [if_neg hc], CSame.refl _⟩
  | succ m ih =>
    intro fuel ob i hf hi h0 h1 h2
    obtain ⟨n, rfl⟩ : ∃ n, fuel = n + 1 := ⟨fuel - 1, by omega⟩
    by_cases hc : i < gI ob 0
    · have hlt : i.toInt < (gI ob 0).toInt := lt_i.mp hc
      have hn := hi.2.1
      have ei := succ8 (i := i) (by omega)
      obtain ⟨o1, e1, s1⟩ := gos57 NF (X_gossip_l46 NF n) a b i ha hb (by omega) 8 NF ob 0 hNF hi (by decide) (by rw [t0]; omega) (by rw [t0]; omega)
      have en := s1.n 0
      obtain ⟨ob', e, s'⟩ := ih n o1 (i + 1) (by omega) (s1.inv hi) (by omega) (by rw [en]; omega) (by rw [en]; omega)
      exact ⟨ob', by show X_gossip_w46 NF _ ob a b i = _; unfold X_gossip_w46; rw [if_pos hc, e1]; exact e, s1.trans s'⟩
    · exact ⟨ob, by show X_gossip_w46 NF _ ob a b i = _; unfold X_gossip_w46; rw [if_neg hc], CSame.refl _⟩
theorem gos_ok (NF : Nat) (hNF : 8 < NF) (ob : Rec) (hi : CInv ob) (a b : Int32) : ∃ r ob', X_gossip NF ob a b = some (r, ob') ∧ COut ob r ob' := by
  unfold X_gossip
  have hn := hi.2.1
  by_cases v : 0 ≤ a.toInt ∧ a.toInt < (gI ob 0).toInt
  · rw [vp_in v, Option.bind_some, if_neg (by decide)]
    by_cases v2 : 0 ≤ b.toInt ∧ b.toInt < (gI ob 0).toInt
    · rw [vp_in v2, Option.bind_some, if_neg (by decide)]
      by_cases c : a = b
      · rw [if_pos c]; exact ⟨_, ob, rfl, hi, Or.inl ⟨by decide, rfl⟩⟩
      · rw [if_neg c, chk_ok (by rw [t8]; omega)]
        by_cases c1 : gA ob 1 a = 0
        · rw [if_pos c1, chk_ok (by rw [t8]; omega)]
          by_cases c2 : gA ob 1 b = 0
          · rw [if_pos c2]
            obtain ⟨ob', e, s'⟩ := gos46 NF hNF a b (by omega) (by omega) 8 NF ob 0 hNF hi (by decide) (by rw [t0]; have := hi.1; omega) (by rw [t0]; omega)
            exact ⟨0, ob', e, s'.inv hi, Or.inr (Or.inr (by decide))⟩
          · rw [if_neg c2]; exact ⟨_, ob, rfl, hi, Or.inl ⟨by decide, rfl⟩⟩
        · rw [if_neg c1]; exact ⟨_, ob, rfl, hi, Or.inl ⟨by decide, rfl⟩⟩
    · rw [vp_out v2, Option.bind_some, if_pos rfl]; exact ⟨_, ob, rfl, hi, Or.inl ⟨by decide, rfl⟩⟩
  · rw [vp_out v, Option.bind_some, if_pos rfl]; exact ⟨_, ob, rfl, hi, Or.inl ⟨by decide, rfl⟩⟩
theorem stb3 (NF : Nat) (ob : Rec) (hi : CInv ob) (p o s : Int32) (hp : 0 ≤ p.toInt ∧ p.toInt < 8) (ho : 0 ≤ o.toInt ∧ o.toInt < 8) : ∀ (m fuel : Nat) (i : Int32), m < fuel → 0 ≤ i.toInt → i.toInt ≤ (gI ob 0).toInt → (gI ob 0).toInt - i.toInt ≤ m → ∃ v, X_isStable_l3 NF ob fuel p o s i = some v := by
  intro m
  induction m with
  | zero =>
    intro fuel i hf h0 h1 h2
    obtain ⟨n, rfl⟩ : ∃ n, fuel = n + 1 := ⟨fuel - 1, by omega⟩
    have hc : ¬ i < gI ob 0 := by rw [lt_i]; omega
    exact ⟨1, by show X_isStable_w3 NF ob _ p o s i = _; unfold X_isStable_w3; rw [if_neg hc]⟩
  | succ m ih =>
    intro fuel i hf h0 h1 h2
    obtain ⟨n, rfl⟩ : ∃ n, fuel = n + 1 := ⟨fuel - 1, by omega⟩
    by_cases hc : i < gI ob 0
    · have hlt : i.toInt < (gI ob 0).toInt := lt_i.mp hc
      have hn := hi.2.1
      have ei := succ8 (i := i) (by omega)
      have ex := ix3 (p := p) (q := i) (o := o) (by omega) (by omega) (by omega)
      obtain ⟨v, e⟩ := ih n (i + 1) (by omega) (by omega) (by omega) (by omega)
      by_cases c : gA ob 1 i = 0
      · by_cases c2 : gA ob 6 (p * 64 + i * 8 + o) < s
        · exact ⟨0, by show X_isStable_w3 NF ob _ p o s i = _; unfold X_isStable_w3 X_knownIndex; rw [if_pos hc, chk_ok (by rw [t8]; omega), if_pos c, Option.bind_some, chk_ok (by rw [t512]; omega), if_pos c2]⟩
        · exact ⟨v, by show X_isStable_w3 NF ob _ p o s i = _; unfold X_isStable_w3 X_knownIndex; rw [if_pos hc, chk_ok (by rw [t8]; omega), if_pos c, Option.bind_some, chk_ok (by rw [t512]; omega), if_neg c2]; exact e⟩
      · exact ⟨v, by show X_isStable_w3 NF ob _ p o s i = _; unfold X_isStable_w3; rw [if_pos hc, chk_ok (by rw [t8]; omega), if_neg c]; exact e⟩
    · exact ⟨1, by show X_isStable_w3 NF ob _ p o s i = _; unfold X_isStable_w3; rw [if_neg hc]⟩
theorem stb_ok (NF : Nat) (hNF : 8 < NF) (ob : Rec) (hi : CInv ob) (p o s : Int32) (hp : 0 ≤ p.toInt ∧ p.toInt < 8) (ho : 0 ≤ o.toInt ∧ o.toInt < 8) : ∃ v, X_isStable NF ob p o s = some v :=
  stb3 NF ob hi p o s hp ho 8 NF 0 hNF (by decide) (by rw [t0]; have := hi.1; omega) (by rw [t0]; have := hi.2.1; omega)
theorem prn45 (NF : Nat) (hNF : 8 < NF) (k26 : Rec → Int32 → Int32 → Int32 → Option (Int32 × Rec)) (p o top : Int32) (hp : 0 ≤ p.toInt ∧ p.toInt < 8) (ho : 0 ≤ o.toInt ∧ o.toInt < 8) : ∀ (m fuel : Nat) (ob : Rec) (c i : Int32), m < fuel → CInv ob → 0 ≤ c.toInt → c.toInt + (9 - i.toInt) < 900 → 1 ≤ i.toInt → i.toInt ≤ 9 → 9 - i.toInt ≤ m → ∃ ob' c', X_prune_l45 NF k26 fuel ob p c o top i = k26 ob' p c' (o + 1) ∧ CSame ob ob' ∧ 0 ≤ c'.toInt ∧ c'.toInt ≤ c.toInt + (9 - i.toInt) := by
  intro m
  induction m with
  | zero =>
    intro fuel ob c i hf hi c0 c9 h0 h1 h2
    obtain ⟨n, rfl⟩ : ∃ n, fuel = n + 1 := ⟨fuel - 1, by omega⟩
    have hc : 8 < i := by rw [lt_i, t8]; omega
    refine ⟨ob, c, ?_, CSame.refl _, c0, by omega⟩
    show X_prune_w45 NF k26 _ ob p c o top i = _
    unfold X_prune_w45
    by_cases q : top < i
    · rw [if_pos q]
    · rw [if_neg q, if_pos hc]
  | succ m ih =>
    intro fuel ob c i hf hi c0 c9 h0 h1 h2
    obtain ⟨n, rfl⟩ : ∃ n, fuel = n + 1 := ⟨fuel - 1, by omega⟩
    by_cases q : top < i
    · exact ⟨ob, c, by show X_prune_w45 NF k26 _ ob p c o top i = _; unfold X_prune_w45; rw [if_pos q], CSame.refl _, c0, by omega⟩
    · by_cases hc : 8 < i
      · exact ⟨ob, c, by show X_prune_w45 NF k26 _ ob p c o top i = _; unfold X_prune_w45; rw [if_neg q, if_pos hc], CSame.refl _, c0, by omega⟩
      · have hlt : i.toInt ≤ 8 := by rw [lt_i, t8] at hc; omega
        have ei := succ8 (i := i) (by omega)
        have ec := succ8 (i := c) (by omega)
        have ex := ixs (p := p) (o := o) (s := i) (by omega) (by omega) (by omega)
        have q512 : ∀ A : Option (Int32 × Rec), chk 512 (p * 64 + o * 8 + i - 1) A = A := fun A => chk_ok (by rw [t512]; omega)
        obtain ⟨o0, c1', e0, s0, a0, b0⟩ := ih n ob c (i + 1) (by omega) hi c0 (by omega) (by omega) (by omega) (by omega)
        by_cases g : gA ob 3 (p * 64 + o * 8 + i - 1) = 2
        · obtain ⟨v, ev⟩ := stb_ok NF hNF ob hi p o i hp ho
          by_cases hv : v = 0
          · refine ⟨o0, c1', ?_, s0, a0, by omega⟩
            show X_prune_w45 NF k26 _ ob p c o top i = _
            unfold X_prune_w45 X_stateIndex; simp only [Option.bind_some, q512]; rw [if_neg q, if_neg hc, if_pos g, ev, Option.bind_some, if_pos hv]; exact e0
          · have sm : CSame ob (sA ob 3 (p * 64 + o * 8 + i - 1) 3) := CSame.sA _ _ _ (by omega)
            obtain ⟨o2, c2', e2, s2, a2, b2⟩ := ih n (sA ob 3 (p * 64 + o * 8 + i - 1) 3) (c + 1) (i + 1) (by omega) (sm.inv hi) (by omega) (by omega) (by omega) (by omega) (by omega)
            refine ⟨o2, c2', ?_, sm.trans s2, a2, by omega⟩
            show X_prune_w45 NF k26 _ ob p c o top i = _
            unfold X_prune_w45 X_stateIndex; simp only [Option.bind_some, q512]; rw [if_neg q, if_neg hc, if_pos g, ev, Option.bind_some, if_neg hv]; exact e2
        · refine ⟨o0, c1', ?_, s0, a0, by omega⟩
          show X_prune_w45 NF k26 _ ob p c o top i = _
          unfold X_prune_w45 X_stateIndex; simp only [Option.bind_some, q512]; rw [if_neg q, if_neg hc, if_neg g]; exact e0
theorem prn26 (NF : Nat) (hNF : 10 < NF) (p : Int32) (hp : 0 ≤ p.toInt ∧ p.toInt < 8) : ∀ (m fuel : Nat) (ob : Rec) (c i : Int32), m < fuel → CInv ob → 0 ≤ c.toInt → c.toInt ≤ 8 * i.toInt → 0 ≤ i.toInt → i.toInt ≤ (gI ob 0).toInt → (gI ob 0).toInt - i.toInt ≤ m → ∃ r ob', X_prune_l26 NF fuel ob p c i = some (r, ob') ∧ CSame ob ob' ∧ 0 ≤ r.toInt := by
  intro m
  induction m with
  | zero =>
    intro fuel ob c i hf hi c0 c9 h0 h1 h2
    obtain ⟨n, rfl⟩ : ∃ n, fuel = n + 1 := ⟨fuel - 1, by omega⟩
    have hc : ¬ i < gI ob 0 := by rw [lt_i]; omega
    exact ⟨c, ob, by show X_prune_w26 NF _ ob p c i = _; unfold X_prune_w26; rw [if_neg hc], CSame.refl _, c0⟩
  | succ m ih =>
    intro fuel ob c i hf hi c0 c9 h0 h1 h2
    obtain ⟨n, rfl⟩ : ∃ n, fuel = n + 1 := ⟨fuel - 1, by omega⟩
    by_cases hc : i < gI ob 0
    · have hlt : i.toInt < (gI ob 0).toInt := lt_i.mp hc
      have hn := hi.2.1
      have ei := succ8 (i := i) (by omega)
      obtain ⟨o1, c1, e1, s1, a1, b1⟩ := prn45 NF (by omega) (X_prune_l26 NF n) p i (gA ob 0 i) hp (by omega) 8 NF ob c 1 (by omega) hi c0 (by rw [t1]; omega) (by decide) (by decide) (by decide)
      rw [t1] at b1
      have en := s1.n 0
      obtain ⟨r, ob', e, s', hr⟩ := ih n o1 c1 (i + 1) (by omega) (s1.inv hi) a1 (by omega) (by omega) (by rw [en]; omega) (by rw [en]; omega)
      exact ⟨r, ob', by show X_prune_w26 NF _ ob p c i = _; unfold X_prune_w26; rw [if_pos hc, chk_ok (by rw [t8]; omega), e1]; exact e, s1.trans s', hr⟩
    · exact ⟨c, ob, by show X_prune_w26 NF _ ob p c i = _; unfold X_prune_w26; rw [if_neg hc], CSame.refl _, c0⟩
theorem prn_ok (NF : Nat) (hNF : 10 < NF) (ob : Rec) (hi : CInv ob) (p : Int32) : ∃ r ob', X_prune NF ob p = some (r, ob') ∧ COut ob r ob' := by
  unfold X_prune
  have hn := hi.2.1
  by_cases v : 0 ≤ p.toInt ∧ p.toInt < (gI ob 0).toInt
  · rw [vp_in v, Option.bind_some, if_neg (by decide), chk_ok (by rw [t8]; omega)]
    by_cases c1 : gA ob 1 p = 0
    · rw [if_pos c1]
      obtain ⟨r, ob', e, s', hr⟩ := prn26 NF hNF p (by omega) 8 NF ob 0 0 (by omega) hi (by decide) (by decide) (by decide) (by rw [t0]; have := hi.1; omega) (by rw [t0]; omega)
      exact ⟨r, ob', e, s'.inv hi, Or.inr (Or.inr hr)⟩
    · rw [if_neg c1]; exact ⟨_, ob, rfl, hi, Or.inl ⟨by decide, rfl⟩⟩
  · rw [vp_out v, Option.bind_some, if_pos rfl]; exact ⟨_, ob, rfl, hi, Or.inl ⟨by decide, rfl⟩⟩
theorem oth2 (NF : Nat) (ob : Rec) (hi : CInv ob) (p : Int32) : ∀ (m fuel : Nat) (i : Int32), m < fuel → 0 ≤ i.toInt → i.toInt ≤ (gI ob 0).toInt → (gI ob 0).toInt - i.toInt ≤ m → ∃ v, X_othersAllCrashed_l2 NF ob fuel p i = some v := by
  intro m
  induction m with
  | zero =>
    intro fuel i hf h0 h1 h2
    obtain ⟨n, rfl⟩ : ∃ n, fuel = n + 1 := ⟨fuel - 1, by omega⟩
    have hc : ¬ i < gI ob 0 := by rw [lt_i]; omega
    exact ⟨1, by show X_othersAllCrashed_w2 NF ob _ p i = _; unfold X_othersAllCrashed_w2; rw [if_neg hc]⟩
  | succ m ih =>
    intro fuel i hf h0 h1 h2
    obtain ⟨n, rfl⟩ : ∃ n, fuel = n + 1 := ⟨fuel - 1, by omega⟩
    by_cases hc : i < gI ob 0
    · have hlt : i.toInt < (gI ob 0).toInt := lt_i.mp hc
      have hn := hi.2.1
      have ei := succ8 (i := i) (by omega)
      obtain ⟨v, e⟩ := ih n (i + 1) (by omega) (by omega) (by omega) (by omega)
      by_cases c : i = p
      · exact ⟨v, by show X_othersAllCrashed_w2 NF ob _ p i = _; unfold X_othersAllCrashed_w2; rw [if_pos hc, if_pos c]; exact e⟩
      · by_cases c2 : gA ob 1 i = 0
        · exact ⟨0, by show X_othersAllCrashed_w2 NF ob _ p i = _; unfold X_othersAllCrashed_w2; rw [if_pos hc, if_neg c, chk_ok (by rw [t8]; omega), if_pos c2]⟩
        · exact ⟨v, by show X_othersAllCrashed_w2 NF ob _ p i = _; unfold X_othersAllCrashed_w2; rw [if_pos hc, if_neg c, chk_ok (by rw [t8]; omega), if_neg c2]; exact e⟩
    · exact ⟨1, by show X_othersAllCrashed_w2 NF ob _ p i = _; unfold X_othersAllCrashed_w2; rw [if_neg hc]⟩
theorem crash_ok (NF : Nat) (hNF : 8 < NF) (ob : Rec) (hi : CInv ob) (p : Int32) : ∃ r ob', X_crash NF ob p = some (r, ob') ∧ COut ob r ob' := by
  unfold X_crash X_othersAllCrashed
  have hn := hi.2.1
  by_cases v : 0 ≤ p.toInt ∧ p.toInt < (gI ob 0).toInt
  · have q8 : ∀ A : Option (Int32 × Rec), chk 8 p A = A := fun A => chk_ok (by rw [t8]; omega)
    simp only [q8]
    rw [vp_in v, Option.bind_some, if_neg (by decide)]
    by_cases c1 : gA ob 1 p = 0
    · rw [if_pos c1]
      obtain ⟨w, e⟩ := oth2 NF ob hi p 8 NF 0 hNF (by decide) (by rw [t0]; have := hi.1; omega) (by rw [t0]; omega)
      rw [e, Option.bind_some]
      by_cases c2 : w = 0
      · rw [if_pos c2]
        refine ⟨_, _, rfl, ?_, Or.inr (Or.inr (by decide))⟩
        obtain ⟨i1, i2, i3, i4, i5, i6, i7⟩ := hi
        refine ⟨i1, i2, i3, i4, fun o => by rw [gA_sA, if_neg (by rintro ⟨e, -⟩; omega)]; exact i5 o, fun o => by rw [gA_sA, if_neg (by rintro ⟨e, -⟩; omega)]; exact i6 o, fun o => ?_⟩
        rw [gA_sA]; split
        · exact Or.inr rfl
        · exact i7 o
      · rw [if_neg c2]; exact ⟨_, ob, rfl, hi, Or.inl ⟨by decide, rfl⟩⟩
    · rw [if_neg c1]; exact ⟨_, ob, rfl, hi, Or.inl ⟨by decide, rfl⟩⟩
  · rw [vp_out v, Option.bind_some, if_pos rfl]; exact ⟨_, ob, rfl, hi, Or.inl ⟨by decide, rfl⟩⟩
theorem g_stamp (ob : Rec) (hi : CInv ob) (o s j : Int32) : ∃ v, X_stamp ob o s j = some v := by
  unfold X_stamp
  by_cases h : ExP ob o s
  · have b := ex_bd hi h
    have hn := hi.2.1
    rw [ex_in hi h, Option.bind_some, if_neg (by decide)]
    by_cases v : 0 ≤ j.toInt ∧ j.toInt < (gI ob 0).toInt
    · have e2 := ixc (o := o) (s := s) (d := j) (by omega) (by omega) (by omega)
      rw [vp_in v, Option.bind_some, if_neg (by decide)]
      unfold X_msgIndex
      rw [Option.bind_some, chk_ok (by rw [t512]; omega)]
      exact ⟨_, rfl⟩
    · rw [vp_out v, Option.bind_some, if_pos rfl]; exact ⟨_, rfl⟩
  · rw [ex_out hi h, Option.bind_some, if_pos rfl]; exact ⟨_, rfl⟩
theorem g_copies (ob : Rec) (hi : CInv ob) (o s j : Int32) : ∃ v, X_copies ob o s j = some v := by
  unfold X_copies
  by_cases h : ExP ob o s
  · have b := ex_bd hi h
    have hn := hi.2.1
    rw [ex_in hi h, Option.bind_some, if_neg (by decide)]
    by_cases v : 0 ≤ j.toInt ∧ j.toInt < (gI ob 0).toInt
    · have e2 := ixc (o := o) (s := s) (d := j) (by omega) (by omega) (by omega)
      rw [vp_in v, Option.bind_some, if_neg (by decide)]
      unfold X_copyIndex
      rw [Option.bind_some, chk_ok (by rw [t512]; omega)]
      exact ⟨_, rfl⟩
    · rw [vp_out v, Option.bind_some, if_pos rfl]; exact ⟨_, rfl⟩
  · rw [ex_out hi h, Option.bind_some, if_pos rfl]; exact ⟨_, rfl⟩
theorem g_state (ob : Rec) (hi : CInv ob) (p o s : Int32) : ∃ v, X_state ob p o s = some v := by
  unfold X_state
  have hn := hi.2.1
  by_cases v : 0 ≤ p.toInt ∧ p.toInt < (gI ob 0).toInt
  · rw [vp_in v, Option.bind_some, if_neg (by decide)]
    by_cases h : ExP ob o s
    · have b := ex_bd hi h
      have e2 := ixs (p := p) (o := o) (s := s) (by omega) (by omega) (by omega)
      rw [ex_in hi h, Option.bind_some, if_neg (by decide)]
      unfold X_stateIndex
      rw [Option.bind_some, chk_ok (by rw [t512]; omega)]
      exact ⟨_, rfl⟩
    · rw [ex_out hi h, Option.bind_some, if_pos rfl]; exact ⟨_, rfl⟩
  · rw [vp_out v, Option.bind_some, if_pos rfl]; exact ⟨_, rfl⟩
theorem g_known (ob : Rec) (hi : CInv ob) (p q o : Int32) : ∃ v, X_known ob p q o = some v := by
  unfold X_known
  have hn := hi.2.1
  by_cases v : 0 ≤ p.toInt ∧ p.toInt < (gI ob 0).toInt
  · rw [vp_in v, Option.bind_some, if_neg (by decide)]
    by_cases v2 : 0 ≤ q.toInt ∧ q.toInt < (gI ob 0).toInt
    · rw [vp_in v2, Option.bind_some, if_neg (by decide)]
      by_cases v3 : 0 ≤ o.toInt ∧ o.toInt < (gI ob 0).toInt
      · have e2 := ix3 (p := p) (q := q) (o := o) (by omega) (by omega) (by omega)
        rw [vp_in v3, Option.bind_some, if_neg (by decide)]
        unfold X_knownIndex
        rw [Option.bind_some, chk_ok (by rw [t512]; omega)]
        exact ⟨_, rfl⟩
      · rw [vp_out v3, Option.bind_some, if_pos rfl]; exact ⟨_, rfl⟩
    · rw [vp_out v2, Option.bind_some, if_pos rfl]; exact ⟨_, rfl⟩
  · rw [vp_out v, Option.bind_some, if_pos rfl]; exact ⟨_, rfl⟩
theorem g_delAt (ob : Rec) (hi : CInv ob) (p i : Int32) : ∃ v, X_deliveredAt ob p i = some v := by
  unfold X_deliveredAt
  have hn := hi.2.1
  by_cases v : 0 ≤ p.toInt ∧ p.toInt < (gI ob 0).toInt
  · rw [vp_in v, Option.bind_some, if_neg (by decide)]
    by_cases c : i < 0
    · rw [if_pos c]; exact ⟨_, rfl⟩
    · rw [if_neg c, chk_ok (by rw [t8]; omega)]
      by_cases c2 : i < gA ob 8 p
      · rw [if_pos c2]
        by_cases c3 : i < 64
        · rw [if_pos c3]
          rw [lt_i, t0] at c
          rw [lt_i, t64] at c3
          have e := ix64 (p := p) (o := i) (by omega) (by omega)
          rw [chk_ok (by rw [t512]; omega)]; exact ⟨_, rfl⟩
        · rw [if_neg c3]; exact ⟨_, rfl⟩
      · rw [if_neg c2]; exact ⟨_, rfl⟩
  · rw [vp_out v, Option.bind_some, if_pos rfl]; exact ⟨_, rfl⟩
theorem g_del (ob : Rec) (hi : CInv ob) (p o : Int32) : ∃ v, X_delivered ob p o = some v := by
  unfold X_delivered
  have hn := hi.2.1
  by_cases v : 0 ≤ p.toInt ∧ p.toInt < (gI ob 0).toInt
  · rw [vp_in v, Option.bind_some, if_neg (by decide)]
    by_cases v3 : 0 ≤ o.toInt ∧ o.toInt < (gI ob 0).toInt
    · have e2 := ix8 (p := p) (o := o) (by omega) (by omega)
      rw [vp_in v3, Option.bind_some, if_neg (by decide), chk_ok (by rw [t64]; omega)]
      exact ⟨_, rfl⟩
    · rw [vp_out v3, Option.bind_some, if_pos rfl]; exact ⟨_, rfl⟩
  · rw [vp_out v, Option.bind_some, if_pos rfl]; exact ⟨_, rfl⟩
theorem g_sent (ob : Rec) (hi : CInv ob) (p : Int32) : ∃ v, X_sent ob p = some v := by
  unfold X_sent
  have hn := hi.2.1
  by_cases v : 0 ≤ p.toInt ∧ p.toInt < (gI ob 0).toInt
  · rw [vp_in v, Option.bind_some, if_neg (by decide), chk_ok (by rw [t8]; omega)]; exact ⟨_, rfl⟩
  · rw [vp_out v, Option.bind_some, if_pos rfl]; exact ⟨_, rfl⟩
theorem g_crashed (ob : Rec) (hi : CInv ob) (p : Int32) : ∃ v, X_isCrashed ob p = some v := by
  unfold X_isCrashed
  have hn := hi.2.1
  by_cases v : 0 ≤ p.toInt ∧ p.toInt < (gI ob 0).toInt
  · rw [vp_in v, Option.bind_some, if_neg (by decide), chk_ok (by rw [t8]; omega)]; exact ⟨_, rfl⟩
  · rw [vp_out v, Option.bind_some, if_pos rfl]; exact ⟨_, rfl⟩
theorem fp198 (NF : Nat) (hNF : 50 < NF) (ob : Rec) (hi : CInv ob) : ∀ (m fuel : Nat) (h : Int64) (i : Int32), m < fuel → 0 ≤ i.toInt → i.toInt ≤ 3 → 3 - i.toInt ≤ m → ∃ w, L_fp_l198 NF ob fuel h i = some w := by
  intro m
  induction m with
  | zero =>
    intro fuel h i hf h0 h1 h2
    obtain ⟨n', rfl⟩ : ∃ n, fuel = n + 1 := ⟨fuel - 1, by omega⟩
    have tk : (3 : Int32).toInt = 3 := rfl
    have hc : ¬ i < 3 := by rw [lt_i, tk]; omega
    exact ⟨h, by show L_fp_w198 NF ob _ h i = _; unfold L_fp_w198; rw [if_neg hc]⟩
  | succ m ih =>
    intro fuel h i hf h0 h1 h2
    obtain ⟨n', rfl⟩ : ∃ n, fuel = n + 1 := ⟨fuel - 1, by omega⟩
    have tk : (3 : Int32).toInt = 3 := rfl
    by_cases hc : i < 3
    · have hlt : i.toInt < 3 := by rw [lt_i, tk] at hc; exact hc
      have ei := succ8 (i := i) (by omega)
      obtain ⟨v1, e1⟩ := g_sent ob hi i
      obtain ⟨v2, e2⟩ := g_crashed ob hi i
      by_cases c : v2 = 0
      · obtain ⟨w, e⟩ := ih n' (((h * 1000003) + v1.toInt64) * 1000003 + 11) (i + 1) (by omega) (by omega) (by omega) (by omega)
        exact ⟨w, by show L_fp_w198 NF ob _ h i = _; unfold L_fp_w198; rw [if_pos hc, e1, Option.bind_some, e2, Option.bind_some, if_pos c]; exact e⟩
      · obtain ⟨w, e⟩ := ih n' (((h * 1000003) + v1.toInt64) * 1000003 + 7) (i + 1) (by omega) (by omega) (by omega) (by omega)
        exact ⟨w, by show L_fp_w198 NF ob _ h i = _; unfold L_fp_w198; rw [if_pos hc, e1, Option.bind_some, e2, Option.bind_some, if_neg c]; exact e⟩
    · exact ⟨h, by show L_fp_w198 NF ob _ h i = _; unfold L_fp_w198; rw [if_neg hc]⟩
theorem fp166 (NF : Nat) (hNF : 50 < NF) (ob : Rec) (hi : CInv ob) : ∀ (m fuel : Nat) (h : Int64) (i : Int32), m < fuel → 0 ≤ i.toInt → i.toInt ≤ 9 → 9 - i.toInt ≤ m → ∃ w, L_fp_l166 NF ob fuel h i = some w := by
  intro m
  induction m with
  | zero =>
    intro fuel h i hf h0 h1 h2
    obtain ⟨n', rfl⟩ : ∃ n, fuel = n + 1 := ⟨fuel - 1, by omega⟩
    have tk : (9 : Int32).toInt = 9 := rfl
    have hc : ¬ i < 9 := by rw [lt_i, tk]; omega
    obtain ⟨w, e⟩ := fp198 NF hNF ob hi 3 NF h 0 (by omega) (by decide) (by decide) (by decide)
    exact ⟨w, by show L_fp_w166 NF ob _ h i = _; unfold L_fp_w166; rw [if_neg hc]; exact e⟩
  | succ m ih =>
    intro fuel h i hf h0 h1 h2
    obtain ⟨n', rfl⟩ : ∃ n, fuel = n + 1 := ⟨fuel - 1, by omega⟩
    have tk : (9 : Int32).toInt = 9 := rfl
    by_cases hc : i < 9
    · have hlt : i.toInt < 9 := by rw [lt_i, tk] at hc; exact hc
      have ei := succ8 (i := i) (by omega)
      obtain ⟨v1, e1⟩ := g_del ob hi (i / 3) (i % 3)
      obtain ⟨w, e⟩ := ih n' _ (i + 1) (by omega) (by omega) (by omega) (by omega)
      exact ⟨w, by show L_fp_w166 NF ob _ h i = _; unfold L_fp_w166; rw [if_pos hc]; rw [e1, Option.bind_some]; exact e⟩
    · obtain ⟨w, e⟩ := fp198 NF hNF ob hi 3 NF h 0 (by omega) (by decide) (by decide) (by decide)
      exact ⟨w, by show L_fp_w166 NF ob _ h i = _; unfold L_fp_w166; rw [if_neg hc]; exact e⟩
theorem fp132 (NF : Nat) (hNF : 50 < NF) (ob : Rec) (hi : CInv ob) : ∀ (m fuel : Nat) (h : Int64) (i : Int32), m < fuel → 0 ≤ i.toInt → i.toInt ≤ 39 → 39 - i.toInt ≤ m → ∃ w, L_fp_l132 NF ob fuel h i = some w := by
  intro m
  induction m with
  | zero =>
    intro fuel h i hf h0 h1 h2
    obtain ⟨n', rfl⟩ : ∃ n, fuel = n + 1 := ⟨fuel - 1, by omega⟩
    have tk : (39 : Int32).toInt = 39 := rfl
    have hc : ¬ i < 39 := by rw [lt_i, tk]; omega
    obtain ⟨w, e⟩ := fp166 NF hNF ob hi 9 NF h 0 (by omega) (by decide) (by decide) (by decide)
    exact ⟨w, by show L_fp_w132 NF ob _ h i = _; unfold L_fp_w132; rw [if_neg hc]; exact e⟩
  | succ m ih =>
    intro fuel h i hf h0 h1 h2
    obtain ⟨n', rfl⟩ : ∃ n, fuel = n + 1 := ⟨fuel - 1, by omega⟩
    have tk : (39 : Int32).toInt = 39 := rfl
    by_cases hc : i < 39
    · have hlt : i.toInt < 39 := by rw [lt_i, tk] at hc; exact hc
      have ei := succ8 (i := i) (by omega)
      obtain ⟨v1, e1⟩ := g_delAt ob hi (i / 13) (i % 13)
      obtain ⟨w, e⟩ := ih n' _ (i + 1) (by omega) (by omega) (by omega) (by omega)
      exact ⟨w, by show L_fp_w132 NF ob _ h i = _; unfold L_fp_w132; rw [if_pos hc]; rw [e1, Option.bind_some]; exact e⟩
    · obtain ⟨w, e⟩ := fp166 NF hNF ob hi 9 NF h 0 (by omega) (by decide) (by decide) (by decide)
      exact ⟨w, by show L_fp_w132 NF ob _ h i = _; unfold L_fp_w132; rw [if_neg hc]; exact e⟩
theorem fp94 (NF : Nat) (hNF : 50 < NF) (ob : Rec) (hi : CInv ob) : ∀ (m fuel : Nat) (h : Int64) (i : Int32), m < fuel → 0 ≤ i.toInt → i.toInt ≤ 27 → 27 - i.toInt ≤ m → ∃ w, L_fp_l94 NF ob fuel h i = some w := by
  intro m
  induction m with
  | zero =>
    intro fuel h i hf h0 h1 h2
    obtain ⟨n', rfl⟩ : ∃ n, fuel = n + 1 := ⟨fuel - 1, by omega⟩
    have tk : (27 : Int32).toInt = 27 := rfl
    have hc : ¬ i < 27 := by rw [lt_i, tk]; omega
    obtain ⟨w, e⟩ := fp132 NF hNF ob hi 39 NF h 0 (by omega) (by decide) (by decide) (by decide)
    exact ⟨w, by show L_fp_w94 NF ob _ h i = _; unfold L_fp_w94; rw [if_neg hc]; exact e⟩
  | succ m ih =>
    intro fuel h i hf h0 h1 h2
    obtain ⟨n', rfl⟩ : ∃ n, fuel = n + 1 := ⟨fuel - 1, by omega⟩
    have tk : (27 : Int32).toInt = 27 := rfl
    by_cases hc : i < 27
    · have hlt : i.toInt < 27 := by rw [lt_i, tk] at hc; exact hc
      have ei := succ8 (i := i) (by omega)
      obtain ⟨v1, e1⟩ := g_known ob hi (i / 9) ((i / 3) % 3) (i % 3)
      obtain ⟨w, e⟩ := ih n' _ (i + 1) (by omega) (by omega) (by omega) (by omega)
      exact ⟨w, by show L_fp_w94 NF ob _ h i = _; unfold L_fp_w94; rw [if_pos hc]; rw [e1, Option.bind_some]; exact e⟩
    · obtain ⟨w, e⟩ := fp132 NF hNF ob hi 39 NF h 0 (by omega) (by decide) (by decide) (by decide)
      exact ⟨w, by show L_fp_w94 NF ob _ h i = _; unfold L_fp_w94; rw [if_neg hc]; exact e⟩
theorem fp6 (NF : Nat) (hNF : 50 < NF) (ob : Rec) (hi : CInv ob) : ∀ (m fuel : Nat) (h : Int64) (i : Int32), m < fuel → 0 ≤ i.toInt → i.toInt ≤ 36 → 36 - i.toInt ≤ m → ∃ w, L_fp_l6 NF ob fuel h i = some w := by
  intro m
  induction m with
  | zero =>
    intro fuel h i hf h0 h1 h2
    obtain ⟨n', rfl⟩ : ∃ n, fuel = n + 1 := ⟨fuel - 1, by omega⟩
    have tk : (36 : Int32).toInt = 36 := rfl
    have hc : ¬ i < 36 := by rw [lt_i, tk]; omega
    obtain ⟨w, e⟩ := fp94 NF hNF ob hi 27 NF h 0 (by omega) (by decide) (by decide) (by decide)
    exact ⟨w, by show L_fp_w6 NF ob _ h i = _; unfold L_fp_w6; rw [if_neg hc]; exact e⟩
  | succ m ih =>
    intro fuel h i hf h0 h1 h2
    obtain ⟨n', rfl⟩ : ∃ n, fuel = n + 1 := ⟨fuel - 1, by omega⟩
    have tk : (36 : Int32).toInt = 36 := rfl
    by_cases hc : i < 36
    · have hlt : i.toInt < 36 := by rw [lt_i, tk] at hc; exact hc
      have ei := succ8 (i := i) (by omega)
      obtain ⟨v1, e1⟩ := g_stamp ob hi (i / 12) ((i / 3) % 4 + 1) (i % 3)
      obtain ⟨v2, e2⟩ := g_copies ob hi (i / 12) ((i / 3) % 4 + 1) (i % 3)
      obtain ⟨v3, e3⟩ := g_state ob hi (i % 3) (i / 12) ((i / 3) % 4 + 1)
      obtain ⟨w, e⟩ := ih n' _ (i + 1) (by omega) (by omega) (by omega) (by omega)
      exact ⟨w, by show L_fp_w6 NF ob _ h i = _; unfold L_fp_w6; rw [if_pos hc]; rw [e1, Option.bind_some, e2, Option.bind_some, e3, Option.bind_some]; exact e⟩
    · obtain ⟨w, e⟩ := fp94 NF hNF ob hi 27 NF h 0 (by omega) (by decide) (by decide) (by decide)
      exact ⟨w, by show L_fp_w6 NF ob _ h i = _; unfold L_fp_w6; rw [if_neg hc]; exact e⟩
theorem fp_ok (NF : Nat) (hNF : 50 < NF) (ob : Rec) (hi : CInv ob) : ∃ w, L_fp NF ob = some w := fp6 NF hNF ob hi 36 NF 17 0 (by omega) (by decide) (by decide) (by decide)
-- USE: cs cs2 cs3 fp
theorem own_b226 (NF : Nat) (hNF : 50 < NF) (z : Int32) (f : Int32 → Int32) (k12 : Rec → Int32 → Option Int32) (ob ob' : Rec) (i : Int32) (w : Int64) (r : Int32) (hw : L_fp NF ob = some w) (ho : COut ob r ob') (hk : ∀ o, CInv o → k12 o (i + 4) = some 1) : L_law_b226 NF z f k12 ob' i w r = some 1 := by
  unfold L_law_b226
  obtain ⟨hi, ho⟩ := ho
  obtain ⟨w', e'⟩ := fp_ok NF hNF ob' hi
  rw [e', Option.bind_some]
  by_cases c : r < 0
  · rw [if_pos c]
    by_cases c5 : r = -5
    · rw [if_pos c5]; exact hk _ hi
    · rw [if_neg c5]
      rw [lt_i, t0] at c
      rcases ho with ⟨-, rfl⟩ | h | h
      · rw [hw] at e'; rw [if_pos (Option.some.inj e').symm]; exact hk _ hi
      · exact absurd h c5
      · omega
  · rw [if_neg c]; exact hk _ hi
theorem COut.of_bc {p : Int32} {ob ob' : Rec} {r : Int32} (h : CInv ob' ∧ ((r.toInt < 0 ∧ ob' = ob) ∨ r = gA ob 0 p + 1 ∧ 1 ≤ r.toInt)) : COut ob r ob' := ⟨h.1, h.2.imp id fun u => Or.inr (by omega)⟩
theorem own_w12 (NF : Nat) (hNF : 100 < NF) (z : Int32) (f : Int32 → Int32) (hz : ¬ z < 0 ∧ z ≤ 260) (k12 : Rec → Int32 → Option Int32) (ob : Rec) (hi : CInv ob) (i : Int32) (h0 : 0 ≤ i.toInt ∧ i.toInt ≤ 300) (hk : (i + 3).toInt < z.toInt → ∀ o, CInv o → k12 o (i + 4) = some 1) : L_law_w12 NF z f k12 ob i = some 1 := by
  unfold L_law_w12
  have e3 : (i + 3).toInt = i.toInt + 3 := by rw [ad (by rw [t3]; omega), t3]
  have e2 : (i + 2).toInt = i.toInt + 2 := by rw [ad (by rw [t2]; omega), t2]
  have e1 : (i + 1).toInt = i.toInt + 1 := succ8 (by omega)
  by_cases c : i + 3 < z
  · have c' := lt_i.mp c
    rw [if_pos c, chk_ok (by omega), chk_ok (by omega), chk_ok (by omega), chk_ok (by omega)]
    obtain ⟨w, ew⟩ := fp_ok NF (by omega) ob hi
    rw [ew, Option.bind_some]
    have fin := fun ob' r => own_b226 NF (by omega) z f k12 ob ob' i w r ew
    split
    · obtain ⟨r, ob', e, h⟩ := bc_ok NF (by omega) ob (f (i + 1) &&& 3) hi
      rw [e]; exact fin ob' r (COut.of_bc h) (hk c')
    · split
      · obtain ⟨r, ob', e, h⟩ := rcv_ok NF (by omega) ob hi (f (i + 1) &&& 3) (f (i + 2) &&& 3) ((f (i + 3) &&& 3) + 1)
        unfold L_law_b102; rw [e]; exact fin ob' r h (hk c')
      · split
        · obtain ⟨r, ob', e, h⟩ := rcv_ok NF (by omega) ob hi (f (i + 1) &&& 3) (f (i + 2) &&& 3) ((f (i + 3) &&& 3) + 1)
          unfold L_law_b102; rw [e]; exact fin ob' r h (hk c')
        · split
          · obtain ⟨r, ob', e, h⟩ := dup_ok ob hi (f (i + 2) &&& 3) ((f (i + 3) &&& 3) + 1) (f (i + 1) &&& 3)
            rw [e]; exact fin ob' r h (hk c')
          · split
            · obtain ⟨r, ob', e, h⟩ := drop_ok ob hi (f (i + 2) &&& 3) ((f (i + 3) &&& 3) + 1) (f (i + 1) &&& 3)
              rw [e]; exact fin ob' r h (hk c')
            · split
              · obtain ⟨r, ob', e, h⟩ := rtx_ok ob hi (f (i + 1) >>> (2 &&& 31) &&& 3) (f (i + 1) &&& 3) (f (i + 2) &&& 3) ((f (i + 3) &&& 3) + 1)
                rw [e]; exact fin ob' r h (hk c')
              · split
                · obtain ⟨r, ob', e, h⟩ := gos_ok NF (by omega) ob hi (f (i + 1) >>> (2 &&& 31) &&& 3) (f (i + 1) &&& 3)
                  rw [e]; exact fin ob' r h (hk c')
                · split
                  · obtain ⟨r, ob', e, h⟩ := prn_ok NF (by omega) ob hi (f (i + 1) &&& 3)
                    rw [e]; exact fin ob' r h (hk c')
                  · obtain ⟨r, ob', e, h⟩ := crash_ok NF (by omega) ob hi (f (i + 1) &&& 3)
                    rw [e]; exact fin ob' r h (hk c')
  · rw [if_neg c]
theorem own_l12 (NF : Nat) (hNF : 100 < NF) (z : Int32) (f : Int32 → Int32) (hz : ¬ z < 0 ∧ z ≤ 260) : ∀ (m fuel : Nat) (ob : Rec) (i : Int32), m < fuel → CInv ob → 0 ≤ i.toInt → i.toInt ≤ 300 → 300 - i.toInt ≤ m → L_law_l12 NF z f fuel ob i = some 1 := by
  have hz' : z.toInt ≤ 260 := by have := le_i.mp hz.2; exact this
  intro m
  induction m with
  | zero =>
    intro fuel ob i hf hi h0 h1 h2
    obtain ⟨n, rfl⟩ : ∃ n, fuel = n + 1 := ⟨fuel - 1, by omega⟩
    show L_law_w12 NF z f _ ob i = _
    have e3 : (i + 3).toInt = i.toInt + 3 := by rw [ad (by rw [t3]; omega), t3]
    exact own_w12 NF hNF z f hz _ ob hi i ⟨h0, h1⟩ (fun c => by omega)
  | succ m ih =>
    intro fuel ob i hf hi h0 h1 h2
    obtain ⟨n, rfl⟩ : ∃ n, fuel = n + 1 := ⟨fuel - 1, by omega⟩
    show L_law_w12 NF z f _ ob i = _
    have e3 : (i + 3).toInt = i.toInt + 3 := by rw [ad (by rw [t3]; omega), t3]
    have t4 : (4 : Int32).toInt = 4 := rfl
    have e4 : (i + 4).toInt = i.toInt + 4 := by rw [ad (by rw [t4]; omega), t4]
    exact own_w12 NF hNF z f hz _ ob hi i ⟨h0, h1⟩ (fun c o ho => ih n o (i + 4) (by omega) ho (by omega) (by omega) (by omega))
theorem own_init : ∃ r, X_init 3 4 = some r ∧ CInv r := by
  refine ⟨sI (sI zrec 0 3) 1 4, rfl, by decide, by decide, by decide, by decide, fun _ => ?_, fun _ => ?_, fun _ => Or.inl rfl⟩
  · show 0 ≤ (0 : Int32).toInt ∧ (0 : Int32).toInt ≤ (4 : Int32).toInt; decide
  · show 0 ≤ (0 : Int32).toInt ∧ (0 : Int32).toInt ≤ 3; decide
theorem owed : ∀ (z : Int32) (f : Int32 → Int32), ¬ z < 0 → z ≤ 260 → ∃ NF, L_law NF z f = some 1 := by
  intro z f h0 h1
  refine ⟨500, ?_⟩
  obtain ⟨r, e, hi⟩ := own_init
  unfold L_law
  rw [e, Option.bind_some]
  exact own_l12 500 (by omega) z f ⟨h0, h1⟩ 300 500 r 0 (by omega) hi (by decide) (by decide) (by decide)
-- owed : ∀ (z : Int32) (f : Int32 → Int32), ¬ z < 0 → z ≤ 260 → ∃ NF, L_law NF z f = some 1
--COMES--
set_option maxRecDepth 65536 in
set_option maxHeartbeats 4000000 in
theorem comes_1 {Post : Tables → Env → Array Value → State → Outcome → State → Prop} (hpost : ∀ tb e args s v u, (limb_1_1.after args s (.returned v) u = true ∧ limb_1_2.after args s (.returned v) u = true ∧ True) → FrameEnd s (.returned v) u (Jvm.fieldLocs frame_1_writes args s ++ Jvm.arrayLocs frame_1_arrays args s ++ Jvm.staticLocs frame_1_statics s) 32 5440 → Post tb e args s (.returned v) u) :
    ArmFor flags0 classFile x code maxLocals ret World_1 tables_1 room_1 Calls_1 rest_1 Pre_1 Post := by
  intro l hfl _ _ p e ha hc hk s m args below hf hA hF happ hP
  obtain ⟨hcalls, hrest, hpre⟩ := hP
  obtain ⟨-, -, -, hnamed, -, -, -, hat⟩ := (Spec.applies_iff hf).mp happ
  obtain ⟨hg, hn⟩ := and_e (Cond.before_iff.mp (show (Jvm.Cond.and given_1 narrow_1).before args s = true from hpre))
  obtain ⟨hcnt, hg⟩ := and_e hg
  obtain ⟨w0, rfl⟩ : ∃ w0 : Value, args = #[w0] := by
    have hs : args.size = 1 := by simpa [Cond.value, given_1] using hcnt
    obtain ⟨L⟩ := args
    match L, hs with
    | [w0], _ => exact ⟨w0, rfl⟩
  have hw := fun d (hd : d ∈ tables_1) => atoms_spec (ws := Jvm.Cond.code x code maxLocals ret :: tables_1) hat d (List.mem_cons_of_mem _ hd)
  have hfit : Fit s := fun {y c} hc i hi => by
    obtain ⟨ha, rfl⟩ := Array.getElem?_eq_some_iff.mp hc
    have q := List.all_eq_true.mp ((Array.all_eq_true_iff_forall_mem.mp hF) _ (Array.getElem_mem ha)) i (List.mem_range.mpr hi)
    simpa [Array.getElem?_eq_getElem hi] using q
  obtain ⟨n1, n2⟩ := and_e hn
  obtain ⟨sa, ev⟩ := arr_v n1
  obtain rfl : w0 = .ref sa := Option.some.inj ev
  obtain ⟨cl, A⟩ := Arr.start ev n1
  have hsz : cl.slots.size < 2 ^ 31 := by
    rcases Nat.lt_or_ge cl.slots.size (2 ^ 31) with q | q
    · exact q
    · have u : (Term.length (.arg 0)).eval #[.ref sa] s none [] s = none := by
        have v : s.arrayAt? sa = some cl := A.fin (Vm.Alike.refl _)
        have e' : ¬ cl.slots.size < 2 ^ 31 := by omega
        simp only [Term.eval] at ev ⊢
        simp [v, e']
      simp [Cond.value, u] at n2
  obtain ⟨z, hz, F⟩ := Scr.start hfit A hsz
  have hle : z ≤ 260 := by
    have u := len_f (t := .arg 0) (args := #[.ref sa]) (first := s) (o := none) (idx := []) ev (A.fin (Vm.Alike.refl _)) hsz
    rw [hz]; first | (simp only [Cond.value, u] at n2; simpa [Term.eval] using n2) | (simp [Cond.value, u, Term.int_eval] at n2; exact n2) | (simp [Cond.value, u, Term.int_eval] at n2; simpa using n2)
  obtain ⟨NF, hlaw⟩ := owed z (atv cl) F.2.2.1 hle
  have hp := L_law_pay (C := (l, s, s.heap.size, #[.ref sa])) (⟨cl, F, rfl⟩ : ScrF (l, s, s.heap.size, #[.ref sa]) sa z (atv cl)) hlaw hw s.heap (Rep.start s) tables_1
  obtain ⟨n, o, h1, h2, h3, v, L, rfl, ⟨N, G', -, rfl⟩, hq⟩ := hp p e ha hc hk s m _ below hf ((Spec.applies_iff_loose hf).mp happ).1 ⟨rfl, State.Warmed39.refl s, rfl⟩ trivial
  refine ⟨n, _, h1, h2, h3, hpost _ _ _ _ _ _ ⟨Cond.after_iff.mpr rfl, Cond.after_iff.mpr (eq_i res_at (Term.int_eval (1)) rfl), trivial⟩ ⟨hq.1, hq.2.1, (hq.2.2.sift fun y hy => Or.inr (N y hy)).mono (by decide) (by decide)⟩⟩
theorem main_1_1 : Claimed_1_1 := comes_1 fun _ _ _ _ _ _ h hF => ⟨h.1, hF⟩
theorem main_1_2 : Claimed_1_2 := comes_1 fun _ _ _ _ _ _ h hF => ⟨h.2.1, hF⟩
end Jvm.Pilot.@@N@@
namespace Jvm.Pilot.@@N@@
open Jvm Jvm.ClassFile Sem Op Lib Jvm.Free Jvm.Stand Jvm.Pilot.@@N@@.Jvm.D
/-! MADE BY PROGRAM (witnessworld.py) out of the Statement's table words and the real class files: 11 classes; the members and pool entries that the words name. The judged class is class 1, her method 1. -/
namespace start1
open Jvm.ClassFile
def u (s : String) : CpInfo := .utf8 (stringToUtf16 s)
/-- a pool by its gaps: so many unusable entries, then the entry; so many at the end -/
def gap : Nat → List CpInfo → List CpInfo
  | 0, r => r
  | n + 1, r => .unusable :: gap n r
def poolList (es : List (Nat × CpInfo)) (last : Nat) : List CpInfo := es.foldr (fun e r => gap e.1 (e.2 :: r)) (gap last [])
def pool (es : List (Nat × CpInfo)) (last : Nat) : Array CpInfo := ⟨poolList es last⟩
def fileOf (pool : Array CpInfo) (this : Nat) (attrs : Array Attribute := #[]) (ms : Array MethodInfo := #[]) (fl : Nat := 33) (sup : Nat := 0) (ifs : Array Nat := #[]) (fds : Array FieldInfo := #[]) : ClassFile where
  minorVersion := 0
  majorVersion := 65
  constantPool := pool
  accessFlags := fl
  thisClass := this
  superClass := sup
  interfaces := ifs
  fields := fds
  methods := ms
  attributes := attrs
def plain (name : String) (sup : Option ClassId) : Class where
  name := name
  kind := .ordinary
  loader := none
  accessFlags := 33
  super := sup
  interfaces := #[]
  cf := none
  fields := #[]
  methods := #[]
  instanceTypes := #[]
  staticTypes := #[]
  resolved := #[]
  callSites := []
  init := .initialized
  statics := none
  mirror := none

def pool0 : Array CpInfo := pool [(5, u "<init>"), (0, u "()V"), (1, .class_ 10), (1, u "java/lang/Object")] 113

def k0c0 : Code := { maxStack := 0, maxLocals := 1, code := object_method_1_code, exceptionTable := #[], attributes := #[] }
def k0m0 : Method := { name := "<init>", desc := "()V", sig := { parameters := [], returnType := none }, accessFlags := 1, code := some k0c0 }
/-- java/lang/Object -/
def k0 : Class := { plain "java/lang/Object" none with
  accessFlags := 33
  interfaces := #[]
  cf := some (fileOf pool0 8 #[] #[{ accessFlags := 1, nameIndex := 5, descriptorIndex := 6, attributes := #[] }] 33 0 #[] #[])
  fields := #[]
  methods := #[k0m0]
  instanceTypes := #[]
  staticTypes := #[]
  resolved := Array.replicate 124 none
  statics := none }

def pool1 : Array CpInfo := pool [(2, .class_ 4), (1, u "java/lang/Object"), (0, u "<init>"), (0, u "()V"), (0, .class_ 8), (0, u "CausalStable"), (0, .methodref 7 10), (0, .nameAndType 5 11), (0, u "(II)V"), (0, .methodref 13 14), (0, .class_ 15), (0, .nameAndType 16 17), (0, u "CausalStableL7"), (0, u "fp"), (0, u "(LCausalStable;)J"), (0, .methodref 7 19), (0, .nameAndType 20 21), (0, u "broadcast"), (0, u "(I)I"), (0, .methodref 7 23), (0, .nameAndType 24 25), (0, u "receive"), (0, u "(III)I"), (0, .methodref 7 27), (0, .nameAndType 28 25), (0, u "duplicate"), (0, .methodref 7 30), (0, .nameAndType 31 25), (0, u "drop"), (0, .methodref 7 33), (0, .nameAndType 34 35), (0, u "retransmit"), (0, u "(IIII)I"), (0, .methodref 7 37), (0, .nameAndType 38 39), (0, u "gossip"), (0, u "(II)I"), (0, .methodref 7 41), (0, .nameAndType 42 21), (0, u "prune"), (0, .methodref 7 44), (0, .nameAndType 45 21), (0, u "crash"), (0, .long 17), (1, .long 1000003), (1, .methodref 7 51), (0, .nameAndType 52 25), (0, u "stamp"), (0, .methodref 7 54), (0, .nameAndType 55 25), (0, u "copies"), (0, .methodref 7 57), (0, .nameAndType 58 25), (0, u "state"), (0, .methodref 7 60), (0, .nameAndType 61 25), (0, u "known"), (0, .methodref 7 63), (0, .nameAndType 64 39), (0, u "deliveredAt"), (0, .methodref 7 66), (0, .nameAndType 67 39), (0, u "delivered"), (0, .methodref 7 69), (0, .nameAndType 70 21), (0, u "sent"), (0, .methodref 7 72), (0, .nameAndType 73 74), (0, u "isCrashed"), (0, u "(I)Z"), (0, .long 7), (1, .long 11), (3, u "law"), (0, u "([I)Z")] 5

def k1m0 : Method := { name := "<init>", desc := "()V", sig := { parameters := [], returnType := none }, accessFlags := 1, code := none }
def k1c1 : Code := { maxStack := 5, maxLocals := 14, code := code, exceptionTable := #[], attributes := #[] }
def k1m1 : Method := { name := "law", desc := "([I)Z", sig := { parameters := [(.array .int)], returnType := some .boolean }, accessFlags := 9, code := some k1c1 }
def k1c2 : Code := { maxStack := 7, maxLocals := 7, code := method_3_code, exceptionTable := #[], attributes := #[] }
def k1m2 : Method := { name := "fp", desc := "(LCausalStable;)J", sig := { parameters := [(.object "CausalStable")], returnType := some .long }, accessFlags := 10, code := some k1c2 }
/-- CausalStableL7 -/
def k1 : Class := { plain "CausalStableL7" (some 0) with
  accessFlags := 33
  interfaces := #[]
  cf := some (fileOf pool1 13 #[] #[{ accessFlags := 1, nameIndex := 5, descriptorIndex := 6, attributes := #[] }, { accessFlags := 9, nameIndex := 81, descriptorIndex := 82, attributes := #[] }, { accessFlags := 10, nameIndex := 16, descriptorIndex := 17, attributes := #[] }] 33 2 #[] #[])
  fields := #[]
  methods := #[k1m0, k1m1, k1m2]
  instanceTypes := #[]
  staticTypes := #[]
  resolved := Array.replicate 88 none
  statics := none }

def pool2 : Array CpInfo := pool [(1, .methodref 2 3), (0, .class_ 4), (0, .nameAndType 5 6), (0, u "java/lang/Object"), (0, u "<init>"), (0, u "()V"), (0, .fieldref 8 9), (0, .class_ 10), (0, .nameAndType 11 12), (0, u "CausalStable"), (0, u "sentCount"), (0, u "[I"), (0, .fieldref 8 14), (0, .nameAndType 15 16), (0, u "crashedFlag"), (0, u "[Z"), (0, .fieldref 8 18), (0, .nameAndType 19 12), (0, u "del"), (0, .fieldref 8 21), (0, .nameAndType 22 12), (0, u "msgState"), (0, .fieldref 8 24), (0, .nameAndType 25 12), (0, u "stampArr"), (0, .fieldref 8 27), (0, .nameAndType 28 12), (0, u "copyArr"), (0, .fieldref 8 30), (0, .nameAndType 31 12), (0, u "known"), (0, .fieldref 8 33), (0, .nameAndType 34 12), (0, u "list"), (0, .fieldref 8 36), (0, .nameAndType 37 12), (0, u "listLen"), (0, .fieldref 8 39), (0, .nameAndType 40 41), (0, u "n"), (0, u "I"), (0, .fieldref 8 43), (0, .nameAndType 44 41), (0, u "cap"), (0, .methodref 8 46), (0, .nameAndType 47 48), (0, u "stateIndex"), (0, u "(III)I"), (0, .methodref 8 50), (0, .nameAndType 51 48), (0, u "knownIndex"), (0, .methodref 8 53), (0, .nameAndType 54 55), (0, u "exists"), (0, u "(II)Z"), (0, .methodref 8 57), (0, .nameAndType 58 59), (0, u "msgIndex"), (0, u "(II)I"), (0, .methodref 8 61), (0, .nameAndType 62 63), (0, u "isDeliverable"), (0, u "(III)Z"), (0, .methodref 8 65), (0, .nameAndType 66 67), (0, u "deliverAt"), (0, u "(III)V"), (0, .methodref 8 69), (0, .nameAndType 70 71), (0, u "validProc"), (0, u "(I)Z"), (0, .methodref 8 73), (0, .nameAndType 74 48), (0, u "copyIndex"), (0, .methodref 8 76), (0, .nameAndType 77 78), (0, u "cascade"), (0, u "(I)I"), (0, .methodref 8 80), (0, .nameAndType 81 63), (0, u "isStable"), (0, .methodref 8 83), (0, .nameAndType 84 71), (0, u "othersAllCrashed"), (0, u "OK"), (2, u "BAD"), (1, u "CRASHED"), (1, u "FULL"), (1, u "NO_COPY"), (1, u "DUPLICATE"), (1, u "NOT_LOGGED"), (1, u "LAST"), (1, u "NONE"), (0, u "HELD"), (1, u "LOGGED"), (1, u "PRUNED"), (1, u "MAX_COPIES"), (0, u "(II)V"), (3, u "broadcast"), (1, u "receive"), (0, u "duplicate"), (0, u "drop"), (0, u "retransmit"), (0, u "(IIII)I"), (0, u "gossip"), (0, u "prune"), (0, u "crash"), (0, u "sent"), (0, u "stamp"), (0, u "copies"), (0, u "state"), (0, u "delivered"), (0, u "deliveredAt"), (0, u "isCrashed")] 2

def k2c0 : Code := { maxStack := 2, maxLocals := 5, code := prog_1_method_1_code, exceptionTable := #[], attributes := #[] }
def k2m0 : Method := { name := "<init>", desc := "(II)V", sig := { parameters := [.int, .int], returnType := none }, accessFlags := 1, code := some k2c0 }
def k2c1 : Code := { maxStack := 2, maxLocals := 2, code := prog_1_method_2_code, exceptionTable := #[], attributes := #[] }
def k2m1 : Method := { name := "validProc", desc := "(I)Z", sig := { parameters := [.int], returnType := some .boolean }, accessFlags := 2, code := some k2c1 }
def k2c2 : Code := { maxStack := 3, maxLocals := 3, code := prog_1_method_3_code, exceptionTable := #[], attributes := #[] }
def k2m2 : Method := { name := "exists", desc := "(II)Z", sig := { parameters := [.int, .int], returnType := some .boolean }, accessFlags := 2, code := some k2c2 }
def k2c3 : Code := { maxStack := 2, maxLocals := 3, code := prog_1_method_4_code, exceptionTable := #[], attributes := #[] }
def k2m3 : Method := { name := "msgIndex", desc := "(II)I", sig := { parameters := [.int, .int], returnType := some .int }, accessFlags := 2, code := some k2c3 }
def k2c4 : Code := { maxStack := 3, maxLocals := 4, code := prog_1_method_5_code, exceptionTable := #[], attributes := #[] }
def k2m4 : Method := { name := "stateIndex", desc := "(III)I", sig := { parameters := [.int, .int, .int], returnType := some .int }, accessFlags := 2, code := some k2c4 }
def k2c5 : Code := { maxStack := 2, maxLocals := 4, code := prog_1_method_6_code, exceptionTable := #[], attributes := #[] }
def k2m5 : Method := { name := "copyIndex", desc := "(III)I", sig := { parameters := [.int, .int, .int], returnType := some .int }, accessFlags := 2, code := some k2c5 }
def k2c6 : Code := { maxStack := 3, maxLocals := 4, code := prog_1_method_7_code, exceptionTable := #[], attributes := #[] }
def k2m6 : Method := { name := "knownIndex", desc := "(III)I", sig := { parameters := [.int, .int, .int], returnType := some .int }, accessFlags := 2, code := some k2c6 }
def k2c7 : Code := { maxStack := 5, maxLocals := 7, code := prog_1_method_8_code, exceptionTable := #[], attributes := #[] }
def k2m7 : Method := { name := "deliverAt", desc := "(III)V", sig := { parameters := [.int, .int, .int], returnType := none }, accessFlags := 2, code := some k2c7 }
def k2c8 : Code := { maxStack := 4, maxLocals := 7, code := prog_1_method_9_code, exceptionTable := #[], attributes := #[] }
def k2m8 : Method := { name := "isDeliverable", desc := "(III)Z", sig := { parameters := [.int, .int, .int], returnType := some .boolean }, accessFlags := 2, code := some k2c8 }
def k2c9 : Code := { maxStack := 4, maxLocals := 8, code := prog_1_method_10_code, exceptionTable := #[], attributes := #[] }
def k2m9 : Method := { name := "cascade", desc := "(I)I", sig := { parameters := [.int], returnType := some .int }, accessFlags := 2, code := some k2c9 }
def k2c10 : Code := { maxStack := 4, maxLocals := 6, code := prog_1_method_11_code, exceptionTable := #[], attributes := #[] }
def k2m10 : Method := { name := "isStable", desc := "(III)Z", sig := { parameters := [.int, .int, .int], returnType := some .boolean }, accessFlags := 2, code := some k2c10 }
def k2c11 : Code := { maxStack := 2, maxLocals := 3, code := prog_1_method_12_code, exceptionTable := #[], attributes := #[] }
def k2m11 : Method := { name := "othersAllCrashed", desc := "(I)Z", sig := { parameters := [.int], returnType := some .boolean }, accessFlags := 2, code := some k2c11 }
def k2c12 : Code := { maxStack := 5, maxLocals := 5, code := prog_1_method_13_code, exceptionTable := #[], attributes := #[] }
def k2m12 : Method := { name := "broadcast", desc := "(I)I", sig := { parameters := [.int], returnType := some .int }, accessFlags := 1, code := some k2c12 }
def k2c13 : Code := { maxStack := 4, maxLocals := 6, code := prog_1_method_14_code, exceptionTable := #[], attributes := #[] }
def k2m13 : Method := { name := "receive", desc := "(III)I", sig := { parameters := [.int, .int, .int], returnType := some .int }, accessFlags := 1, code := some k2c13 }
def k2c14 : Code := { maxStack := 4, maxLocals := 5, code := prog_1_method_15_code, exceptionTable := #[], attributes := #[] }
def k2m14 : Method := { name := "duplicate", desc := "(III)I", sig := { parameters := [.int, .int, .int], returnType := some .int }, accessFlags := 1, code := some k2c14 }
def k2c15 : Code := { maxStack := 4, maxLocals := 5, code := prog_1_method_16_code, exceptionTable := #[], attributes := #[] }
def k2m15 : Method := { name := "drop", desc := "(III)I", sig := { parameters := [.int, .int, .int], returnType := some .int }, accessFlags := 1, code := some k2c15 }
def k2c16 : Code := { maxStack := 4, maxLocals := 7, code := prog_1_method_17_code, exceptionTable := #[], attributes := #[] }
def k2m16 : Method := { name := "retransmit", desc := "(IIII)I", sig := { parameters := [.int, .int, .int, .int], returnType := some .int }, accessFlags := 1, code := some k2c16 }
def k2c17 : Code := { maxStack := 4, maxLocals := 7, code := prog_1_method_18_code, exceptionTable := #[], attributes := #[] }
def k2m17 : Method := { name := "gossip", desc := "(II)I", sig := { parameters := [.int, .int], returnType := some .int }, accessFlags := 1, code := some k2c17 }
def k2c18 : Code := { maxStack := 4, maxLocals := 7, code := prog_1_method_19_code, exceptionTable := #[], attributes := #[] }
def k2m18 : Method := { name := "prune", desc := "(I)I", sig := { parameters := [.int], returnType := some .int }, accessFlags := 1, code := some k2c18 }
def k2c19 : Code := { maxStack := 3, maxLocals := 2, code := prog_1_method_20_code, exceptionTable := #[], attributes := #[] }
def k2m19 : Method := { name := "crash", desc := "(I)I", sig := { parameters := [.int], returnType := some .int }, accessFlags := 1, code := some k2c19 }
def k2c20 : Code := { maxStack := 2, maxLocals := 2, code := prog_1_method_21_code, exceptionTable := #[], attributes := #[] }
def k2m20 : Method := { name := "sent", desc := "(I)I", sig := { parameters := [.int], returnType := some .int }, accessFlags := 1, code := some k2c20 }
def k2c21 : Code := { maxStack := 3, maxLocals := 5, code := prog_1_method_22_code, exceptionTable := #[], attributes := #[] }
def k2m21 : Method := { name := "stamp", desc := "(III)I", sig := { parameters := [.int, .int, .int], returnType := some .int }, accessFlags := 1, code := some k2c21 }
def k2c22 : Code := { maxStack := 4, maxLocals := 5, code := prog_1_method_23_code, exceptionTable := #[], attributes := #[] }
def k2m22 : Method := { name := "copies", desc := "(III)I", sig := { parameters := [.int, .int, .int], returnType := some .int }, accessFlags := 1, code := some k2c22 }
def k2c23 : Code := { maxStack := 4, maxLocals := 5, code := prog_1_method_24_code, exceptionTable := #[], attributes := #[] }
def k2m23 : Method := { name := "state", desc := "(III)I", sig := { parameters := [.int, .int, .int], returnType := some .int }, accessFlags := 1, code := some k2c23 }
def k2c24 : Code := { maxStack := 3, maxLocals := 3, code := prog_1_method_25_code, exceptionTable := #[], attributes := #[] }
def k2m24 : Method := { name := "delivered", desc := "(II)I", sig := { parameters := [.int, .int], returnType := some .int }, accessFlags := 1, code := some k2c24 }
def k2c25 : Code := { maxStack := 3, maxLocals := 3, code := prog_1_method_26_code, exceptionTable := #[], attributes := #[] }
def k2m25 : Method := { name := "deliveredAt", desc := "(II)I", sig := { parameters := [.int, .int], returnType := some .int }, accessFlags := 1, code := some k2c25 }
def k2c26 : Code := { maxStack := 4, maxLocals := 5, code := prog_1_method_27_code, exceptionTable := #[], attributes := #[] }
def k2m26 : Method := { name := "known", desc := "(III)I", sig := { parameters := [.int, .int, .int], returnType := some .int }, accessFlags := 1, code := some k2c26 }
def k2c27 : Code := { maxStack := 2, maxLocals := 2, code := prog_1_method_28_code, exceptionTable := #[], attributes := #[] }
def k2m27 : Method := { name := "isCrashed", desc := "(I)Z", sig := { parameters := [.int], returnType := some .boolean }, accessFlags := 1, code := some k2c27 }
/-- CausalStable -/
def k2 : Class := { plain "CausalStable" (some 0) with
  accessFlags := 49
  interfaces := #[]
  cf := some (fileOf pool2 8 #[] #[{ accessFlags := 1, nameIndex := 5, descriptorIndex := 110, attributes := #[] }, { accessFlags := 2, nameIndex := 70, descriptorIndex := 71, attributes := #[] }, { accessFlags := 2, nameIndex := 54, descriptorIndex := 55, attributes := #[] }, { accessFlags := 2, nameIndex := 58, descriptorIndex := 59, attributes := #[] }, { accessFlags := 2, nameIndex := 47, descriptorIndex := 48, attributes := #[] }, { accessFlags := 2, nameIndex := 74, descriptorIndex := 48, attributes := #[] }, { accessFlags := 2, nameIndex := 51, descriptorIndex := 48, attributes := #[] }, { accessFlags := 2, nameIndex := 66, descriptorIndex := 67, attributes := #[] }, { accessFlags := 2, nameIndex := 62, descriptorIndex := 63, attributes := #[] }, { accessFlags := 2, nameIndex := 77, descriptorIndex := 78, attributes := #[] }, { accessFlags := 2, nameIndex := 81, descriptorIndex := 63, attributes := #[] }, { accessFlags := 2, nameIndex := 84, descriptorIndex := 71, attributes := #[] }, { accessFlags := 1, nameIndex := 114, descriptorIndex := 78, attributes := #[] }, { accessFlags := 1, nameIndex := 116, descriptorIndex := 48, attributes := #[] }, { accessFlags := 1, nameIndex := 117, descriptorIndex := 48, attributes := #[] }, { accessFlags := 1, nameIndex := 118, descriptorIndex := 48, attributes := #[] }, { accessFlags := 1, nameIndex := 119, descriptorIndex := 120, attributes := #[] }, { accessFlags := 1, nameIndex := 121, descriptorIndex := 59, attributes := #[] }, { accessFlags := 1, nameIndex := 122, descriptorIndex := 78, attributes := #[] }, { accessFlags := 1, nameIndex := 123, descriptorIndex := 78, attributes := #[] }, { accessFlags := 1, nameIndex := 124, descriptorIndex := 78, attributes := #[] }, { accessFlags := 1, nameIndex := 125, descriptorIndex := 48, attributes := #[] }, { accessFlags := 1, nameIndex := 126, descriptorIndex := 48, attributes := #[] }, { accessFlags := 1, nameIndex := 127, descriptorIndex := 48, attributes := #[] }, { accessFlags := 1, nameIndex := 128, descriptorIndex := 59, attributes := #[] }, { accessFlags := 1, nameIndex := 129, descriptorIndex := 59, attributes := #[] }, { accessFlags := 1, nameIndex := 31, descriptorIndex := 48, attributes := #[] }, { accessFlags := 1, nameIndex := 130, descriptorIndex := 71, attributes := #[] }] 49 2 #[] #[{ accessFlags := 25, nameIndex := 85, descriptorIndex := 41, attributes := #[] }, { accessFlags := 25, nameIndex := 88, descriptorIndex := 41, attributes := #[] }, { accessFlags := 25, nameIndex := 90, descriptorIndex := 41, attributes := #[] }, { accessFlags := 25, nameIndex := 92, descriptorIndex := 41, attributes := #[] }, { accessFlags := 25, nameIndex := 94, descriptorIndex := 41, attributes := #[] }, { accessFlags := 25, nameIndex := 96, descriptorIndex := 41, attributes := #[] }, { accessFlags := 25, nameIndex := 98, descriptorIndex := 41, attributes := #[] }, { accessFlags := 25, nameIndex := 100, descriptorIndex := 41, attributes := #[] }, { accessFlags := 25, nameIndex := 102, descriptorIndex := 41, attributes := #[] }, { accessFlags := 25, nameIndex := 103, descriptorIndex := 41, attributes := #[] }, { accessFlags := 25, nameIndex := 105, descriptorIndex := 41, attributes := #[] }, { accessFlags := 25, nameIndex := 107, descriptorIndex := 41, attributes := #[] }, { accessFlags := 25, nameIndex := 109, descriptorIndex := 41, attributes := #[] }, { accessFlags := 2, nameIndex := 40, descriptorIndex := 41, attributes := #[] }, { accessFlags := 2, nameIndex := 44, descriptorIndex := 41, attributes := #[] }, { accessFlags := 2, nameIndex := 11, descriptorIndex := 12, attributes := #[] }, { accessFlags := 2, nameIndex := 15, descriptorIndex := 16, attributes := #[] }, { accessFlags := 2, nameIndex := 19, descriptorIndex := 12, attributes := #[] }, { accessFlags := 2, nameIndex := 22, descriptorIndex := 12, attributes := #[] }, { accessFlags := 2, nameIndex := 25, descriptorIndex := 12, attributes := #[] }, { accessFlags := 2, nameIndex := 28, descriptorIndex := 12, attributes := #[] }, { accessFlags := 2, nameIndex := 31, descriptorIndex := 12, attributes := #[] }, { accessFlags := 2, nameIndex := 34, descriptorIndex := 12, attributes := #[] }, { accessFlags := 2, nameIndex := 37, descriptorIndex := 12, attributes := #[] }])
  fields := #[{ name := "OK", type := .int, accessFlags := 25, slot := 0, constantValue := 0 }, { name := "BAD", type := .int, accessFlags := 25, slot := 1, constantValue := 0 }, { name := "CRASHED", type := .int, accessFlags := 25, slot := 2, constantValue := 0 }, { name := "FULL", type := .int, accessFlags := 25, slot := 3, constantValue := 0 }, { name := "NO_COPY", type := .int, accessFlags := 25, slot := 4, constantValue := 0 }, { name := "DUPLICATE", type := .int, accessFlags := 25, slot := 5, constantValue := 0 }, { name := "NOT_LOGGED", type := .int, accessFlags := 25, slot := 6, constantValue := 0 }, { name := "LAST", type := .int, accessFlags := 25, slot := 7, constantValue := 0 }, { name := "NONE", type := .int, accessFlags := 25, slot := 8, constantValue := 0 }, { name := "HELD", type := .int, accessFlags := 25, slot := 9, constantValue := 0 }, { name := "LOGGED", type := .int, accessFlags := 25, slot := 10, constantValue := 0 }, { name := "PRUNED", type := .int, accessFlags := 25, slot := 11, constantValue := 0 }, { name := "MAX_COPIES", type := .int, accessFlags := 25, slot := 12, constantValue := 0 }, { name := "n", type := .int, accessFlags := 2, slot := 0, constantValue := 0 }, { name := "cap", type := .int, accessFlags := 2, slot := 1, constantValue := 0 }, { name := "sentCount", type := (.array .int), accessFlags := 2, slot := 2, constantValue := 0 }, { name := "crashedFlag", type := (.array .boolean), accessFlags := 2, slot := 3, constantValue := 0 }, { name := "del", type := (.array .int), accessFlags := 2, slot := 4, constantValue := 0 }, { name := "msgState", type := (.array .int), accessFlags := 2, slot := 5, constantValue := 0 }, { name := "stampArr", type := (.array .int), accessFlags := 2, slot := 6, constantValue := 0 }, { name := "copyArr", type := (.array .int), accessFlags := 2, slot := 7, constantValue := 0 }, { name := "known", type := (.array .int), accessFlags := 2, slot := 8, constantValue := 0 }, { name := "list", type := (.array .int), accessFlags := 2, slot := 9, constantValue := 0 }, { name := "listLen", type := (.array .int), accessFlags := 2, slot := 10, constantValue := 0 }]
  methods := #[k2m0, k2m1, k2m2, k2m3, k2m4, k2m5, k2m6, k2m7, k2m8, k2m9, k2m10, k2m11, k2m12, k2m13, k2m14, k2m15, k2m16, k2m17, k2m18, k2m19, k2m20, k2m21, k2m22, k2m23, k2m24, k2m25, k2m26, k2m27]
  instanceTypes := #[.int, .int, (.array .int), (.array .boolean), (.array .int), (.array .int), (.array .int), (.array .int), (.array .int), (.array .int), (.array .int)]
  staticTypes := #[.int, .int, .int, .int, .int, .int, .int, .int, .int, .int, .int, .int, .int]
  resolved := Array.replicate 133 none
  statics := none }

def pool3 : Array CpInfo := pool [(1, u "java/lang/Cloneable"), (0, .class_ 1), (0, u "java/lang/Object"), (0, .class_ 3)] 3

/-- java/lang/Cloneable -/
def k3 : Class := { plain "java/lang/Cloneable" (some 0) with
  accessFlags := 1537
  interfaces := #[]
  cf := some (fileOf pool3 2 #[] #[] 1537 4 #[] #[])
  fields := #[]
  methods := #[]
  instanceTypes := #[]
  staticTypes := #[]
  resolved := Array.replicate 8 none
  statics := none }

def pool4 : Array CpInfo := pool [(1, u "java/io/Serializable"), (0, .class_ 1), (0, u "java/lang/Object"), (0, .class_ 3)] 3

/-- java/io/Serializable -/
def k4 : Class := { plain "java/io/Serializable" (some 0) with
  accessFlags := 1537
  interfaces := #[]
  cf := some (fileOf pool4 2 #[] #[] 1537 4 #[] #[])
  fields := #[]
  methods := #[]
  instanceTypes := #[]
  staticTypes := #[]
  resolved := Array.replicate 8 none
  statics := none }

/-- the primitive boolean -/
def k5 : Class := { plain "boolean" none with kind := .primitive 'Z', accessFlags := 0x411 }
/-- [Z -/
def k6 : Class := { plain "[Z" (some 0) with kind := .array 5 .boolean, interfaces := #[3, 4], accessFlags := 1041 }

/-- the primitive byte -/
def k7 : Class := { plain "byte" none with kind := .primitive 'B', accessFlags := 0x411 }
/-- [B -/
def k8 : Class := { plain "[B" (some 0) with kind := .array 7 .byte, interfaces := #[3, 4], accessFlags := 1041 }

/-- the primitive int -/
def k9 : Class := { plain "int" none with kind := .primitive 'I', accessFlags := 0x411 }
/-- [I -/
def k10 : Class := { plain "[I" (some 0) with kind := .array 9 .int, interfaces := #[3, 4], accessFlags := 1041 }

def heap : Heap := #[{ cls := 10, slots := #[.int 0, .int 3, .int 5], vm := .none }]
def classes : Array Class := #[k0, k1, k2, k3, k4, k5, k6, k7, k8, k9, k10]
def interned : List (Array UInt16 × Addr) := []
def slotsUsed : Nat := 3
def theMethod : MethodId := ⟨1, 1⟩
def args0 : Array Value := #[.ref 0]
def aboutOver (below : List Frame) : State where
  vm := { classes := classes, interned := interned.toArray }
  heap := heap
  slotsUsed := slotsUsed
  threads := #[{ frames := .invoking theMethod args0 :: below }]
def below0 : List Frame := [.native { method := ⟨0, 0⟩, args := #[] }]
def about1 : State := aboutOver below0
def p0 : Program := .bare "" "" ""
def e0 : Env := launch0.env 0 0 0
theorem w_frames : about1.frames = Frame.invoking theMethod args0 :: below0 := rfl
set_option maxRecDepth 65536 in
theorem w_args : argsFit about1.vm theMethod args0 = true := by decide +kernel
set_option maxRecDepth 65536 in
theorem w_heap : heapFits about1 = true := by decide +kernel
set_option maxRecDepth 65536 in
theorem w_runnable : about1.curStatus? = some .runnable := by decide +kernel
set_option maxRecDepth 65536 in
theorem w_alone : about1.alone = true := by decide +kernel
set_option maxRecDepth 65536 in
theorem w_named : about1.methodNamed? x = some theMethod := by decide +kernel
set_option maxRecDepth 65536 in
theorem w_hears : about1.hears theMethod below0 = true := by decide +kernel
set_option maxRecDepth 65536 in
theorem w_ripe : about1.ripe theMethod args0 below0 = true := by decide +kernel
theorem w_running : about1.status = .running := rfl
set_option maxRecDepth 65536 in
theorem w_room : about1.hasRoom e0.platform room_1 = true :=
  launch0.hasRoom_least _ room_1 (by decide +kernel) (by decide +kernel) (by decide +kernel) (by decide +kernel) (by decide +kernel) (by decide +kernel)
theorem allAtoms_all (ts : List Jvm.Cond) (a : Array Jvm.Value) (st : Jvm.State) : (allAtoms ts).before a st = ts.all (fun c => c.before a st) := by
  induction ts with
  | nil => rfl
  | cons c t ih =>
    show (Jvm.Cond.and c (allAtoms t)).before a st = _
    rw [Jvm.Cond.before_and, ih, List.all_cons]
def words1 : List Jvm.Cond := Jvm.Cond.code x code maxLocals ret :: tables_1
/-- a 'code' word, met by the world's own term for the bytes: nothing is compared byte by byte -/
theorem code_word {y : MethodName} {bytes : ByteArray} {mx : Nat} {rt : Option FieldType} {a : Array Value} {s : State} {m : MethodId} {meth : Method} {c : Code} (h1 : s.methodNamed? y = some m) (h2 : s.vm.method? m = some meth) (h3 : meth.code = some c) (h4 : c.code = bytes)
    (h5 : (c.maxLocals == mx && c.exceptionTable.isEmpty && decide (c.maxStack ≤ mostOperands) && decide (meth.sig.returnType = rt) && !meth.locks && decide (parseMethodDescriptor y.desc = some meth.sig)) = true) : (Jvm.Cond.code y bytes mx rt).before a s = true := by
  simp only [Bool.and_eq_true, beq_iff_eq, Bool.not_eq_true', decide_eq_true_eq] at h5
  obtain ⟨⟨⟨⟨⟨g1, g2⟩, g3⟩, g4⟩, g5⟩, g6⟩ := h5
  simp [Cond.before, Cond.holds, Cond.value, h1, h2, h3, h4, g1, g2, g3, g4, g5, g6]
def isCode : Jvm.Cond → Bool
  | .code _ _ _ _ => true
  | _ => false
theorem all_split {L : List Jvm.Cond} {P : Jvm.Cond → Bool} (h1 : L.all (fun c => isCode c || P c) = true) (h2 : ∀ c ∈ L.filter isCode, P c = true) : L.all P = true := by
  refine List.all_eq_true.mpr fun c hc => ?_
  have h := List.all_eq_true.mp h1 c hc
  rcases Bool.eq_false_or_eq_true (isCode c) with hi | hi
  · exact h2 c (List.mem_filter.mpr ⟨hc, hi⟩)
  · simpa [hi] using h
set_option maxRecDepth 65536 in
theorem w_c0 : (Jvm.Cond.code x code maxLocals ret).before args0 about1 = true := code_word (m := ⟨1, 1⟩) (meth := k1m1) (c := k1c1) (by decide +kernel) rfl rfl rfl (by decide +kernel)
set_option maxRecDepth 65536 in
theorem w_c1 : (Jvm.Cond.code ({ cls := "CausalStable", name := "<init>", desc := "(II)V" } : Jvm.MethodName) prog_1_method_1_code (5 : Nat) (Option.none : Option Jvm.ClassFile.FieldType)).before args0 about1 = true := code_word (m := ⟨2, 0⟩) (meth := k2m0) (c := k2c0) (by decide +kernel) rfl rfl rfl (by decide +kernel)
set_option maxRecDepth 65536 in
theorem w_c2 : (Jvm.Cond.code ({ cls := "java/lang/Object", name := "<init>", desc := "()V" } : Jvm.MethodName) object_method_1_code (1 : Nat) (Option.none : Option Jvm.ClassFile.FieldType)).before args0 about1 = true := code_word (m := ⟨0, 0⟩) (meth := k0m0) (c := k0c0) (by decide +kernel) rfl rfl rfl (by decide +kernel)
set_option maxRecDepth 65536 in
theorem w_c3 : (Jvm.Cond.code ({ cls := "CausalStableL7", name := "fp", desc := "(LCausalStable;)J" } : Jvm.MethodName) method_3_code (7 : Nat) (Option.some Jvm.ClassFile.FieldType.long)).before args0 about1 = true := code_word (m := ⟨1, 2⟩) (meth := k1m2) (c := k1c2) (by decide +kernel) rfl rfl rfl (by decide +kernel)
set_option maxRecDepth 65536 in
theorem w_c4 : (Jvm.Cond.code ({ cls := "CausalStable", name := "stamp", desc := "(III)I" } : Jvm.MethodName) prog_1_method_22_code (5 : Nat) (Option.some Jvm.ClassFile.FieldType.int)).before args0 about1 = true := code_word (m := ⟨2, 21⟩) (meth := k2m21) (c := k2c21) (by decide +kernel) rfl rfl rfl (by decide +kernel)
set_option maxRecDepth 65536 in
theorem w_c5 : (Jvm.Cond.code ({ cls := "CausalStable", name := "exists", desc := "(II)Z" } : Jvm.MethodName) prog_1_method_3_code (3 : Nat) (Option.some Jvm.ClassFile.FieldType.boolean)).before args0 about1 = true := code_word (m := ⟨2, 2⟩) (meth := k2m2) (c := k2c2) (by decide +kernel) rfl rfl rfl (by decide +kernel)
set_option maxRecDepth 65536 in
theorem w_c6 : (Jvm.Cond.code ({ cls := "CausalStable", name := "copies", desc := "(III)I" } : Jvm.MethodName) prog_1_method_23_code (5 : Nat) (Option.some Jvm.ClassFile.FieldType.int)).before args0 about1 = true := code_word (m := ⟨2, 22⟩) (meth := k2m22) (c := k2c22) (by decide +kernel) rfl rfl rfl (by decide +kernel)
set_option maxRecDepth 65536 in
theorem w_c7 : (Jvm.Cond.code ({ cls := "CausalStable", name := "state", desc := "(III)I" } : Jvm.MethodName) prog_1_method_24_code (5 : Nat) (Option.some Jvm.ClassFile.FieldType.int)).before args0 about1 = true := code_word (m := ⟨2, 23⟩) (meth := k2m23) (c := k2c23) (by decide +kernel) rfl rfl rfl (by decide +kernel)
set_option maxRecDepth 65536 in
theorem w_c8 : (Jvm.Cond.code ({ cls := "CausalStable", name := "validProc", desc := "(I)Z" } : Jvm.MethodName) prog_1_method_2_code (2 : Nat) (Option.some Jvm.ClassFile.FieldType.boolean)).before args0 about1 = true := code_word (m := ⟨2, 1⟩) (meth := k2m1) (c := k2c1) (by decide +kernel) rfl rfl rfl (by decide +kernel)
set_option maxRecDepth 65536 in
theorem w_c9 : (Jvm.Cond.code ({ cls := "CausalStable", name := "known", desc := "(III)I" } : Jvm.MethodName) prog_1_method_27_code (5 : Nat) (Option.some Jvm.ClassFile.FieldType.int)).before args0 about1 = true := code_word (m := ⟨2, 26⟩) (meth := k2m26) (c := k2c26) (by decide +kernel) rfl rfl rfl (by decide +kernel)
set_option maxRecDepth 65536 in
theorem w_c10 : (Jvm.Cond.code ({ cls := "CausalStable", name := "knownIndex", desc := "(III)I" } : Jvm.MethodName) prog_1_method_7_code (4 : Nat) (Option.some Jvm.ClassFile.FieldType.int)).before args0 about1 = true := code_word (m := ⟨2, 6⟩) (meth := k2m6) (c := k2c6) (by decide +kernel) rfl rfl rfl (by decide +kernel)
set_option maxRecDepth 65536 in
theorem w_c11 : (Jvm.Cond.code ({ cls := "CausalStable", name := "deliveredAt", desc := "(II)I" } : Jvm.MethodName) prog_1_method_26_code (3 : Nat) (Option.some Jvm.ClassFile.FieldType.int)).before args0 about1 = true := code_word (m := ⟨2, 25⟩) (meth := k2m25) (c := k2c25) (by decide +kernel) rfl rfl rfl (by decide +kernel)
set_option maxRecDepth 65536 in
theorem w_c12 : (Jvm.Cond.code ({ cls := "CausalStable", name := "delivered", desc := "(II)I" } : Jvm.MethodName) prog_1_method_25_code (3 : Nat) (Option.some Jvm.ClassFile.FieldType.int)).before args0 about1 = true := code_word (m := ⟨2, 24⟩) (meth := k2m24) (c := k2c24) (by decide +kernel) rfl rfl rfl (by decide +kernel)
set_option maxRecDepth 65536 in
theorem w_c13 : (Jvm.Cond.code ({ cls := "CausalStable", name := "sent", desc := "(I)I" } : Jvm.MethodName) prog_1_method_21_code (2 : Nat) (Option.some Jvm.ClassFile.FieldType.int)).before args0 about1 = true := code_word (m := ⟨2, 20⟩) (meth := k2m20) (c := k2c20) (by decide +kernel) rfl rfl rfl (by decide +kernel)
set_option maxRecDepth 65536 in
theorem w_c14 : (Jvm.Cond.code ({ cls := "CausalStable", name := "isCrashed", desc := "(I)Z" } : Jvm.MethodName) prog_1_method_28_code (2 : Nat) (Option.some Jvm.ClassFile.FieldType.boolean)).before args0 about1 = true := code_word (m := ⟨2, 27⟩) (meth := k2m27) (c := k2c27) (by decide +kernel) rfl rfl rfl (by decide +kernel)
set_option maxRecDepth 65536 in
theorem w_c15 : (Jvm.Cond.code ({ cls := "CausalStable", name := "broadcast", desc := "(I)I" } : Jvm.MethodName) prog_1_method_13_code (5 : Nat) (Option.some Jvm.ClassFile.FieldType.int)).before args0 about1 = true := code_word (m := ⟨2, 12⟩) (meth := k2m12) (c := k2c12) (by decide +kernel) rfl rfl rfl (by decide +kernel)
set_option maxRecDepth 65536 in
theorem w_c16 : (Jvm.Cond.code ({ cls := "CausalStable", name := "msgIndex", desc := "(II)I" } : Jvm.MethodName) prog_1_method_4_code (3 : Nat) (Option.some Jvm.ClassFile.FieldType.int)).before args0 about1 = true := code_word (m := ⟨2, 3⟩) (meth := k2m3) (c := k2c3) (by decide +kernel) rfl rfl rfl (by decide +kernel)
set_option maxRecDepth 65536 in
theorem w_c17 : (Jvm.Cond.code ({ cls := "CausalStable", name := "deliverAt", desc := "(III)V" } : Jvm.MethodName) prog_1_method_8_code (7 : Nat) (Option.none : Option Jvm.ClassFile.FieldType)).before args0 about1 = true := code_word (m := ⟨2, 7⟩) (meth := k2m7) (c := k2c7) (by decide +kernel) rfl rfl rfl (by decide +kernel)
set_option maxRecDepth 65536 in
theorem w_c18 : (Jvm.Cond.code ({ cls := "CausalStable", name := "stateIndex", desc := "(III)I" } : Jvm.MethodName) prog_1_method_5_code (4 : Nat) (Option.some Jvm.ClassFile.FieldType.int)).before args0 about1 = true := code_word (m := ⟨2, 4⟩) (meth := k2m4) (c := k2c4) (by decide +kernel) rfl rfl rfl (by decide +kernel)
set_option maxRecDepth 65536 in
theorem w_c19 : (Jvm.Cond.code ({ cls := "CausalStable", name := "copyIndex", desc := "(III)I" } : Jvm.MethodName) prog_1_method_6_code (4 : Nat) (Option.some Jvm.ClassFile.FieldType.int)).before args0 about1 = true := code_word (m := ⟨2, 5⟩) (meth := k2m5) (c := k2c5) (by decide +kernel) rfl rfl rfl (by decide +kernel)
set_option maxRecDepth 65536 in
theorem w_c20 : (Jvm.Cond.code ({ cls := "CausalStable", name := "duplicate", desc := "(III)I" } : Jvm.MethodName) prog_1_method_15_code (5 : Nat) (Option.some Jvm.ClassFile.FieldType.int)).before args0 about1 = true := code_word (m := ⟨2, 14⟩) (meth := k2m14) (c := k2c14) (by decide +kernel) rfl rfl rfl (by decide +kernel)
set_option maxRecDepth 65536 in
theorem w_c21 : (Jvm.Cond.code ({ cls := "CausalStable", name := "crash", desc := "(I)I" } : Jvm.MethodName) prog_1_method_20_code (2 : Nat) (Option.some Jvm.ClassFile.FieldType.int)).before args0 about1 = true := code_word (m := ⟨2, 19⟩) (meth := k2m19) (c := k2c19) (by decide +kernel) rfl rfl rfl (by decide +kernel)
set_option maxRecDepth 65536 in
theorem w_c22 : (Jvm.Cond.code ({ cls := "CausalStable", name := "othersAllCrashed", desc := "(I)Z" } : Jvm.MethodName) prog_1_method_12_code (3 : Nat) (Option.some Jvm.ClassFile.FieldType.boolean)).before args0 about1 = true := code_word (m := ⟨2, 11⟩) (meth := k2m11) (c := k2c11) (by decide +kernel) rfl rfl rfl (by decide +kernel)
set_option maxRecDepth 65536 in
theorem w_c23 : (Jvm.Cond.code ({ cls := "CausalStable", name := "receive", desc := "(III)I" } : Jvm.MethodName) prog_1_method_14_code (6 : Nat) (Option.some Jvm.ClassFile.FieldType.int)).before args0 about1 = true := code_word (m := ⟨2, 13⟩) (meth := k2m13) (c := k2c13) (by decide +kernel) rfl rfl rfl (by decide +kernel)
set_option maxRecDepth 65536 in
theorem w_c24 : (Jvm.Cond.code ({ cls := "CausalStable", name := "prune", desc := "(I)I" } : Jvm.MethodName) prog_1_method_19_code (7 : Nat) (Option.some Jvm.ClassFile.FieldType.int)).before args0 about1 = true := code_word (m := ⟨2, 18⟩) (meth := k2m18) (c := k2c18) (by decide +kernel) rfl rfl rfl (by decide +kernel)
set_option maxRecDepth 65536 in
theorem w_c25 : (Jvm.Cond.code ({ cls := "CausalStable", name := "drop", desc := "(III)I" } : Jvm.MethodName) prog_1_method_16_code (5 : Nat) (Option.some Jvm.ClassFile.FieldType.int)).before args0 about1 = true := code_word (m := ⟨2, 15⟩) (meth := k2m15) (c := k2c15) (by decide +kernel) rfl rfl rfl (by decide +kernel)
set_option maxRecDepth 65536 in
theorem w_c26 : (Jvm.Cond.code ({ cls := "CausalStable", name := "retransmit", desc := "(IIII)I" } : Jvm.MethodName) prog_1_method_17_code (7 : Nat) (Option.some Jvm.ClassFile.FieldType.int)).before args0 about1 = true := code_word (m := ⟨2, 16⟩) (meth := k2m16) (c := k2c16) (by decide +kernel) rfl rfl rfl (by decide +kernel)
set_option maxRecDepth 65536 in
theorem w_c27 : (Jvm.Cond.code ({ cls := "CausalStable", name := "gossip", desc := "(II)I" } : Jvm.MethodName) prog_1_method_18_code (7 : Nat) (Option.some Jvm.ClassFile.FieldType.int)).before args0 about1 = true := code_word (m := ⟨2, 17⟩) (meth := k2m17) (c := k2c17) (by decide +kernel) rfl rfl rfl (by decide +kernel)
set_option maxRecDepth 65536 in
theorem w_c28 : (Jvm.Cond.code ({ cls := "CausalStable", name := "isStable", desc := "(III)Z" } : Jvm.MethodName) prog_1_method_11_code (6 : Nat) (Option.some Jvm.ClassFile.FieldType.boolean)).before args0 about1 = true := code_word (m := ⟨2, 10⟩) (meth := k2m10) (c := k2c10) (by decide +kernel) rfl rfl rfl (by decide +kernel)
set_option maxRecDepth 65536 in
theorem w_c29 : (Jvm.Cond.code ({ cls := "CausalStable", name := "cascade", desc := "(I)I" } : Jvm.MethodName) prog_1_method_10_code (8 : Nat) (Option.some Jvm.ClassFile.FieldType.int)).before args0 about1 = true := code_word (m := ⟨2, 9⟩) (meth := k2m9) (c := k2c9) (by decide +kernel) rfl rfl rfl (by decide +kernel)
set_option maxRecDepth 65536 in
theorem w_c30 : (Jvm.Cond.code ({ cls := "CausalStable", name := "isDeliverable", desc := "(III)Z" } : Jvm.MethodName) prog_1_method_9_code (7 : Nat) (Option.some Jvm.ClassFile.FieldType.boolean)).before args0 about1 = true := code_word (m := ⟨2, 8⟩) (meth := k2m8) (c := k2c8) (by decide +kernel) rfl rfl rfl (by decide +kernel)
def codes1 : List Jvm.Cond := [Jvm.Cond.code x code maxLocals ret, Jvm.Cond.code ({ cls := "CausalStable", name := "<init>", desc := "(II)V" } : Jvm.MethodName) prog_1_method_1_code (5 : Nat) (Option.none : Option Jvm.ClassFile.FieldType), Jvm.Cond.code ({ cls := "java/lang/Object", name := "<init>", desc := "()V" } : Jvm.MethodName) object_method_1_code (1 : Nat) (Option.none : Option Jvm.ClassFile.FieldType), Jvm.Cond.code ({ cls := "CausalStableL7", name := "fp", desc := "(LCausalStable;)J" } : Jvm.MethodName) method_3_code (7 : Nat) (Option.some Jvm.ClassFile.FieldType.long), Jvm.Cond.code ({ cls := "CausalStable", name := "stamp", desc := "(III)I" } : Jvm.MethodName) prog_1_method_22_code (5 : Nat) (Option.some Jvm.ClassFile.FieldType.int), Jvm.Cond.code ({ cls := "CausalStable", name := "exists", desc := "(II)Z" } : Jvm.MethodName) prog_1_method_3_code (3 : Nat) (Option.some Jvm.ClassFile.FieldType.boolean), Jvm.Cond.code ({ cls := "CausalStable", name := "copies", desc := "(III)I" } : Jvm.MethodName) prog_1_method_23_code (5 : Nat) (Option.some Jvm.ClassFile.FieldType.int), Jvm.Cond.code ({ cls := "CausalStable", name := "state", desc := "(III)I" } : Jvm.MethodName) prog_1_method_24_code (5 : Nat) (Option.some Jvm.ClassFile.FieldType.int), Jvm.Cond.code ({ cls := "CausalStable", name := "validProc", desc := "(I)Z" } : Jvm.MethodName) prog_1_method_2_code (2 : Nat) (Option.some Jvm.ClassFile.FieldType.boolean), Jvm.Cond.code ({ cls := "CausalStable", name := "known", desc := "(III)I" } : Jvm.MethodName) prog_1_method_27_code (5 : Nat) (Option.some Jvm.ClassFile.FieldType.int), Jvm.Cond.code ({ cls := "CausalStable", name := "knownIndex", desc := "(III)I" } : Jvm.MethodName) prog_1_method_7_code (4 : Nat) (Option.some Jvm.ClassFile.FieldType.int), Jvm.Cond.code ({ cls := "CausalStable", name := "deliveredAt", desc := "(II)I" } : Jvm.MethodName) prog_1_method_26_code (3 : Nat) (Option.some Jvm.ClassFile.FieldType.int), Jvm.Cond.code ({ cls := "CausalStable", name := "delivered", desc := "(II)I" } : Jvm.MethodName) prog_1_method_25_code (3 : Nat) (Option.some Jvm.ClassFile.FieldType.int), Jvm.Cond.code ({ cls := "CausalStable", name := "sent", desc := "(I)I" } : Jvm.MethodName) prog_1_method_21_code (2 : Nat) (Option.some Jvm.ClassFile.FieldType.int), Jvm.Cond.code ({ cls := "CausalStable", name := "isCrashed", desc := "(I)Z" } : Jvm.MethodName) prog_1_method_28_code (2 : Nat) (Option.some Jvm.ClassFile.FieldType.boolean), Jvm.Cond.code ({ cls := "CausalStable", name := "broadcast", desc := "(I)I" } : Jvm.MethodName) prog_1_method_13_code (5 : Nat) (Option.some Jvm.ClassFile.FieldType.int), Jvm.Cond.code ({ cls := "CausalStable", name := "msgIndex", desc := "(II)I" } : Jvm.MethodName) prog_1_method_4_code (3 : Nat) (Option.some Jvm.ClassFile.FieldType.int), Jvm.Cond.code ({ cls := "CausalStable", name := "deliverAt", desc := "(III)V" } : Jvm.MethodName) prog_1_method_8_code (7 : Nat) (Option.none : Option Jvm.ClassFile.FieldType), Jvm.Cond.code ({ cls := "CausalStable", name := "stateIndex", desc := "(III)I" } : Jvm.MethodName) prog_1_method_5_code (4 : Nat) (Option.some Jvm.ClassFile.FieldType.int), Jvm.Cond.code ({ cls := "CausalStable", name := "copyIndex", desc := "(III)I" } : Jvm.MethodName) prog_1_method_6_code (4 : Nat) (Option.some Jvm.ClassFile.FieldType.int), Jvm.Cond.code ({ cls := "CausalStable", name := "duplicate", desc := "(III)I" } : Jvm.MethodName) prog_1_method_15_code (5 : Nat) (Option.some Jvm.ClassFile.FieldType.int), Jvm.Cond.code ({ cls := "CausalStable", name := "crash", desc := "(I)I" } : Jvm.MethodName) prog_1_method_20_code (2 : Nat) (Option.some Jvm.ClassFile.FieldType.int), Jvm.Cond.code ({ cls := "CausalStable", name := "othersAllCrashed", desc := "(I)Z" } : Jvm.MethodName) prog_1_method_12_code (3 : Nat) (Option.some Jvm.ClassFile.FieldType.boolean), Jvm.Cond.code ({ cls := "CausalStable", name := "receive", desc := "(III)I" } : Jvm.MethodName) prog_1_method_14_code (6 : Nat) (Option.some Jvm.ClassFile.FieldType.int), Jvm.Cond.code ({ cls := "CausalStable", name := "prune", desc := "(I)I" } : Jvm.MethodName) prog_1_method_19_code (7 : Nat) (Option.some Jvm.ClassFile.FieldType.int), Jvm.Cond.code ({ cls := "CausalStable", name := "drop", desc := "(III)I" } : Jvm.MethodName) prog_1_method_16_code (5 : Nat) (Option.some Jvm.ClassFile.FieldType.int), Jvm.Cond.code ({ cls := "CausalStable", name := "retransmit", desc := "(IIII)I" } : Jvm.MethodName) prog_1_method_17_code (7 : Nat) (Option.some Jvm.ClassFile.FieldType.int), Jvm.Cond.code ({ cls := "CausalStable", name := "gossip", desc := "(II)I" } : Jvm.MethodName) prog_1_method_18_code (7 : Nat) (Option.some Jvm.ClassFile.FieldType.int), Jvm.Cond.code ({ cls := "CausalStable", name := "isStable", desc := "(III)Z" } : Jvm.MethodName) prog_1_method_11_code (6 : Nat) (Option.some Jvm.ClassFile.FieldType.boolean), Jvm.Cond.code ({ cls := "CausalStable", name := "cascade", desc := "(I)I" } : Jvm.MethodName) prog_1_method_10_code (8 : Nat) (Option.some Jvm.ClassFile.FieldType.int), Jvm.Cond.code ({ cls := "CausalStable", name := "isDeliverable", desc := "(III)Z" } : Jvm.MethodName) prog_1_method_9_code (7 : Nat) (Option.some Jvm.ClassFile.FieldType.boolean)]
set_option maxRecDepth 65536 in
theorem codes_eq : words1.filter isCode = codes1 := rfl
theorem w_codes : ∀ c ∈ words1.filter isCode, c.before args0 about1 = true := by
  rw [codes_eq]
  intro c hc
  simp only [codes1, List.mem_cons, List.not_mem_nil, or_false] at hc
  rcases hc with rfl | rfl | rfl | rfl | rfl | rfl | rfl | rfl | rfl | rfl | rfl | rfl | rfl | rfl | rfl | rfl | rfl | rfl | rfl | rfl | rfl | rfl | rfl | rfl | rfl | rfl | rfl | rfl | rfl | rfl | rfl
  · exact w_c0
  · exact w_c1
  · exact w_c2
  · exact w_c3
  · exact w_c4
  · exact w_c5
  · exact w_c6
  · exact w_c7
  · exact w_c8
  · exact w_c9
  · exact w_c10
  · exact w_c11
  · exact w_c12
  · exact w_c13
  · exact w_c14
  · exact w_c15
  · exact w_c16
  · exact w_c17
  · exact w_c18
  · exact w_c19
  · exact w_c20
  · exact w_c21
  · exact w_c22
  · exact w_c23
  · exact w_c24
  · exact w_c25
  · exact w_c26
  · exact w_c27
  · exact w_c28
  · exact w_c29
  · exact w_c30
set_option maxRecDepth 65536 in
theorem w_t1 : (words1.take 24).all (fun c => isCode c || c.before args0 about1) = true := by decide +kernel
set_option maxRecDepth 65536 in
theorem w_t2 : ((words1.drop 24).take 24).all (fun c => isCode c || c.before args0 about1) = true := by decide +kernel
set_option maxRecDepth 65536 in
theorem w_t3 : (((words1.drop 24).drop 24).take 24).all (fun c => isCode c || c.before args0 about1) = true := by decide +kernel
set_option maxRecDepth 65536 in
theorem w_t4 : ((((words1.drop 24).drop 24).drop 24).take 24).all (fun c => isCode c || c.before args0 about1) = true := by decide +kernel
set_option maxRecDepth 65536 in
theorem w_t5 : (((((words1.drop 24).drop 24).drop 24).drop 24).take 24).all (fun c => isCode c || c.before args0 about1) = true := by decide +kernel
set_option maxRecDepth 65536 in
theorem w_t6 : ((((((words1.drop 24).drop 24).drop 24).drop 24).drop 24).take 24).all (fun c => isCode c || c.before args0 about1) = true := by decide +kernel
set_option maxRecDepth 65536 in
theorem w_t7 : ((((((words1.drop 24).drop 24).drop 24).drop 24).drop 24).drop 24).all (fun c => isCode c || c.before args0 about1) = true := by decide +kernel
theorem w_tables : (allAtoms (Jvm.Cond.code x code maxLocals ret :: tables_1)).before args0 about1 = true := by
  rw [allAtoms_all]
  show words1.all (fun c => c.before args0 about1) = true
  refine all_split ?_ w_codes
  rw [← List.take_append_drop 24 words1, List.all_append, w_t1, ← List.take_append_drop 24 (words1.drop 24), List.all_append, w_t2, ← List.take_append_drop 24 ((words1.drop 24).drop 24), List.all_append, w_t3, ← List.take_append_drop 24 (((words1.drop 24).drop 24).drop 24), List.all_append, w_t4, ← List.take_append_drop 24 ((((words1.drop 24).drop 24).drop 24).drop 24), List.all_append, w_t5, ← List.take_append_drop 24 (((((words1.drop 24).drop 24).drop 24).drop 24).drop 24), List.all_append, w_t6, w_t7]
  rfl
set_option maxRecDepth 65536 in
theorem w_rest : rest_1_c.before args0 about1 = true := by decide +kernel
set_option maxRecDepth 65536 in
theorem w_case : (Jvm.Cond.and given_1 narrow_1).before args0 about1 = true := by decide +kernel
theorem w_applies : (headSpec (Jvm.Cond.code x code maxLocals ret :: tables_1) room_1).applies x e0.platform about1 = true :=
  (Spec.applies_iff w_frames).mpr ⟨w_running, w_runnable, w_alone, w_named, w_hears, w_ripe, w_room, w_tables⟩
theorem atStart : AtStart classFile x code maxLocals ret World_1 tables_1 room_1 Calls_1 rest_1 Pre_1 launch0 p0 e0 about1 theMethod args0 below0 :=
  ⟨lists_1, trivial, launch0.admits_env _ _ _, launch0.least_env, fairChoices_fair.cas, fairChoices_fair.clock, w_frames, w_args, w_heap, w_applies, trivial, w_rest, w_case⟩
end start1
theorem witness_1 : WitnessClaimed_1 := ⟨start1.p0, start1.e0, start1.about1, start1.theMethod, start1.args0, start1.below0, start1.atStart⟩
end Jvm.Pilot.@@N@@
