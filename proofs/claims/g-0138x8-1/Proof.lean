import JvmDerived
import JvmDerived.Pilot.@@N@@Statement
import JvmDerived.Pilot.@@N@@Code
set_option linter.unusedVariables false
set_option linter.unusedSimpArgs false
namespace Jvm.RoadKit
open Sem ClassFile Op Lib Jvm.Stand Jvm.Free Jvm.LawKit
section New
variable {p : Program} {l : Launch} {e : Env} {R : Room} {s : State} {m : MethodId} {args : Array Value} {below : List Frame} {meth : Method} {c : Code} {T : State} {locs : List Loc} {cells slots : Nat}
theorem retI (X : Stand p l e R s m args below meth c T locs cells slots) (hx : p.tables.exec = Jvm.exec) {pc : Nat} {Ls : Array Slot} {z : Int32} {rest : List Value} (hret : meth.sig.returnType = some .int) (hd : decode c.code pc = .ok (.ireturn, 1)) {fs : List Frame}
    (hl : ∀ (f : JFrame) (acts : List Action), f.method = m → f.locked = none → f.entered = [] → (doReturn e (T.setTop f) acts (some (.int z))).1 = T.setFrames fs) : Steps p.tables e below (T.setTop (mkF m pc Ls (.int z :: rest))) (T.setFrames fs) := by
  have hm' : T.vm.method? m = some meth := X.method'
  have hn : narrow .int (.int z) = .int z := rfl
  show Steps p.tables e below (T.setTop { method := m, pc := pc, locals := Ls, stack := _ :: rest, locked := none }) _
  jvm_step X.here [X.here.top, hx, hd, hm', hret, hn]
  first | (intro acts; rw [hl _ acts rfl rfl rfl]) | rw [hl _ _ rfl rfl rfl]
  exact Steps.refl _
end New
end Jvm.RoadKit
namespace Jvm.Pilot.@@N@@
open Jvm Jvm.ClassFile Sem Op Lib Jvm.Free Jvm.Stand Jvm.LawKit Jvm.RoadKit Bundle Jvm.Pilot.@@N@@.Jvm.D
/- records: scalars, int-like arrays, long arrays -/
abbrev Rec : Type := (Nat → Int32) × (Nat → Int32 → Int32) × (Nat → Int32 → Int64)
def zrec : Rec := (fun _ => 0, fun _ _ => 0, fun _ _ => 0)
def gI (ob : Rec) (k : Nat) : Int32 := ob.1 k
def gA (ob : Rec) (k : Nat) (i : Int32) : Int32 := ob.2.1 k i
def gJ (ob : Rec) (k : Nat) (i : Int32) : Int64 := ob.2.2 k i
def sI (ob : Rec) (k : Nat) (v : Int32) : Rec := (fun j => if j = k then v else ob.1 j, ob.2)
def sA (ob : Rec) (k : Nat) (i v : Int32) : Rec := (ob.1, fun j x => if j = k ∧ x = i then v else ob.2.1 j x, ob.2.2)
def sJ (ob : Rec) (k : Nat) (i : Int32) (v : Int64) : Rec := (ob.1, ob.2.1, fun j x => if j = k ∧ x = i then v else ob.2.2 j x)
def chk {γ : Type} (n i : Int32) (A : Option γ) : Option γ := if i < 0 then none else if i < n then A else none
def dvz {γ : Type} (y : Int32) (A : Option γ) : Option γ := if y = 0 then none else A
def bind2 {α β γ : Type} (o : Option (α × β)) (f : α → β → Option γ) : Option γ := o.bind fun q => f q.1 q.2
def bind3 {α β γ δ : Type} (o : Option (α × β × δ)) (f : α → β → δ → Option γ) : Option γ := o.bind fun q => f q.1 q.2.1 q.2.2
theorem ite_el {c : Prop} [Decidable c] {γ : Type} {A B : Option γ} {r : γ} {Q : Prop} (h : (if c then A else B) = some r) (t : c → A = some r → Q) (e : ¬ c → B = some r → Q) : Q := by
  by_cases hc : c
  · rw [if_pos hc] at h; exact t hc h
  · rw [if_neg hc] at h; exact e hc h
theorem bind_el {α γ : Type} {o : Option α} {f : α → Option γ} {r : γ} {Q : Prop} (h : o.bind f = some r) (k : ∀ x, o = some x → f x = some r → Q) : Q := by
  cases o with
  | none => cases h
  | some x => exact k x rfl h
theorem bind2_el {α β γ : Type} {o : Option (α × β)} {f : α → β → Option γ} {r : γ} {Q : Prop} (h : bind2 o f = some r) (k : ∀ x y, o = some (x, y) → f x y = some r → Q) : Q := by
  rcases o with _ | ⟨x, y⟩
  · cases h
  · exact k x y rfl h
theorem bind3_el {α β γ δ : Type} {o : Option (α × β × δ)} {f : α → β → δ → Option γ} {r : γ} {Q : Prop} (h : bind3 o f = some r) (k : ∀ x y z, o = some (x, y, z) → f x y z = some r → Q) : Q := by
  rcases o with _ | ⟨x, y, z⟩
  · cases h
  · exact k x y z rfl h
theorem chk_el {γ : Type} {n i : Int32} {A : Option γ} {r : γ} {Q : Prop} (h : chk n i A = some r) (k : (¬ i < 0 ∧ i < n) → A = some r → Q) : Q := by
  unfold chk at h
  by_cases h0 : i < 0
  · rw [if_pos h0] at h; cases h
  · rw [if_neg h0] at h
    by_cases h1 : i < n
    · rw [if_pos h1] at h; exact k ⟨h0, h1⟩ h
    · rw [if_neg h1] at h; cases h
theorem dvz_el {γ : Type} {y : Int32} {A : Option γ} {r : γ} {Q : Prop} (h : dvz y A = some r) (k : y ≠ 0 → A = some r → Q) : Q := by
  unfold dvz at h
  by_cases h0 : y = 0
  · rw [if_pos h0] at h; cases h
  · rw [if_neg h0] at h; exact k h0 h
def All {α : Type} (p : α → Prop) : List α → Prop
  | [] => True
  | x :: l => p x ∧ All p l
theorem All.mem {α : Type} {p : α → Prop} : ∀ {l : List α}, All p l → ∀ {x : α}, x ∈ l → p x
  | [], _, _, h => nomatch h
  | _ :: _, H, _, h => (List.mem_cons.mp h).elim (fun e => e ▸ H.1) (fun e => All.mem H.2 e)
def el (ty : FieldType) (ob : Rec) (k : Nat) (j : Int32) : Value := match ty with
  | .long => .long (ob.2.2 k j)
  | _ => .int (ob.2.1 k j)
def aD (ty : FieldType) : String := match ty with
  | .int => "[I"
  | .boolean => "[Z"
  | _ => "[J"
abbrev Cls : Type := String × List (String × String) × List (String × FieldType × Int32)
abbrev mem1 (k : Nat) {d : Jvm.Cond} (h : tables_1[k]? = some d) : d ∈ tables_1 := List.mem_of_getElem? h
abbrev sOk (C : String) (nd : String × String) : Prop := (Jvm.Cond.lays C C nd.1 nd.2 ∈ tables_1 ∨ Jvm.Cond.laysFinal C C nd.1 nd.2 ∈ tables_1) ∧ (nd.2 = "I" ∨ nd.2 = "Z")
abbrev aOk (C : String) (t : String × FieldType × Int32) : Prop := (Jvm.Cond.lays C C t.1 (aD t.2.1) ∈ tables_1 ∨ Jvm.Cond.laysFinal C C t.1 (aD t.2.1) ∈ tables_1) ∧ (t.2.1 = .int ∨ t.2.1 = .boolean ∨ t.2.1 = .long) ∧ ¬ t.2.2 < 0
def K : Cls := ("SaturProver", [("cap", "I"), ("n", "I"), ("dep", "I"), ("sn", "I"), ("hasSaved", "Z"), ("res", "I"), ("wit", "I"), ("fValid", "Z")], [("toks", .int, 32), ("saved", .int, 32), ("stk", .long, 128), ("tabF", .long, 4), ("tabS", .long, 4), ("work", .long, 4)])
theorem kS : All (sOk K.1) K.2.1 := ⟨⟨Or.inl (mem1 24 rfl), Or.inl rfl⟩, ⟨Or.inl (mem1 26 rfl), Or.inl rfl⟩, ⟨Or.inl (mem1 28 rfl), Or.inl rfl⟩, ⟨Or.inl (mem1 30 rfl), Or.inl rfl⟩, ⟨Or.inl (mem1 32 rfl), Or.inr rfl⟩, ⟨Or.inl (mem1 40 rfl), Or.inl rfl⟩, ⟨Or.inl (mem1 42 rfl), Or.inl rfl⟩, ⟨Or.inl (mem1 34 rfl), Or.inr rfl⟩, trivial⟩
theorem kA : All (aOk K.1) K.2.2 := ⟨⟨Or.inr (mem1 11 rfl), Or.inl rfl, by decide⟩, ⟨Or.inr (mem1 13 rfl), Or.inl rfl, by decide⟩, ⟨Or.inr (mem1 16 rfl), Or.inr (Or.inr rfl), by decide⟩, ⟨Or.inr (mem1 18 rfl), Or.inr (Or.inr rfl), by decide⟩, ⟨Or.inr (mem1 20 rfl), Or.inr (Or.inr rfl), by decide⟩, ⟨Or.inr (mem1 22 rfl), Or.inr (Or.inr rfl), by decide⟩, trivial⟩
abbrev kN : Nat := 14
theorem kI : Jvm.Cond.instantiable K.1 kN ∈ tables_1 := mem1 1 rfl
theorem kZ : Jvm.Cond.initialized K.1 ∈ tables_1 := mem1 2 rfl
theorem kNm : (K.2.1.map (·.1) ++ K.2.2.map (·.1)).Nodup := by decide +kernel
theorem nm_ss {k k' : Nat} {nd nd' : String × String} (h : K.2.1[k]? = some nd) (h' : K.2.1[k']? = some nd') (ne : k ≠ k') : nd.1 ≠ nd'.1 := fun e => by
  have l := (List.getElem?_eq_some_iff.mp h).1
  have l' := (List.getElem?_eq_some_iff.mp h').1
  refine ne ((List.getElem?_inj (l := K.2.1.map (·.1) ++ K.2.2.map (·.1)) (i := k) (j := k') (by simp; omega) kNm).mp ?_)
  rw [List.getElem?_append_left (by simpa using l), List.getElem?_append_left (by simpa using l'), List.getElem?_map, List.getElem?_map, h, h']
  simp [e]
theorem nm_aa {k k' : Nat} {t t' : String × FieldType × Int32} (h : K.2.2[k]? = some t) (h' : K.2.2[k']? = some t') (ne : k ≠ k') : t.1 ≠ t'.1 := fun e => by
  have l := (List.getElem?_eq_some_iff.mp h).1
  have l' := (List.getElem?_eq_some_iff.mp h').1
  have q := (List.getElem?_inj (l := K.2.1.map (·.1) ++ K.2.2.map (·.1)) (i := K.2.1.length + k) (j := K.2.1.length + k') (by simp; omega) kNm).mp (by
    rw [List.getElem?_append_right (by simp), List.getElem?_append_right (by simp)]
    simp [h, h', e])
  omega
theorem nm_sa {k k' : Nat} {nd : String × String} {t : String × FieldType × Int32} (h : K.2.1[k]? = some nd) (h' : K.2.2[k']? = some t) : nd.1 ≠ t.1 := fun e => by
  have l := (List.getElem?_eq_some_iff.mp h).1
  have l' := (List.getElem?_eq_some_iff.mp h').1
  have q := (List.getElem?_inj (l := K.2.1.map (·.1) ++ K.2.2.map (·.1)) (i := k) (j := K.2.1.length + k') (by simp; omega) kNm).mp (by
    rw [List.getElem?_append_left (by simpa using l), List.getElem?_append_right (by simp)]
    simp [h, h', e])
  omega
abbrev Ctx : Type := Launch × State × Nat × Array Value
def Ok (C : Ctx) : Prop := ∀ d ∈ tables_1, d.before C.2.2.2 C.2.1 = true
def ArrAt (Z : State) (h : Heap) (b : Nat) (ty : FieldType) (len : Int32) (v : Int32 → Value) : Prop := ∃ cl : Cell, Arr Z h b cl ty ∧ cl.slots.size = len.toNatClampNeg ∧ ∀ j : Int32, ¬ j < 0 → j < len → cl.slots[j.toNatClampNeg]? = some (v j)
def ObjAt (Z : State) (h : Heap) (a : Nat) (q : Nat) (ob : Rec) : Prop :=
  Exa Z h a K.1 ∧ (∀ k nd, K.2.1[k]? = some nd → Fld Z h a K.1 nd.1 nd.2 (.int (ob.1 k))) ∧
  (∀ k t, K.2.2[k]? = some t → k < q → Fld Z h a K.1 t.1 (aD t.2.1) (.ref (a + 1 + k)) ∧ ArrAt Z h (a + 1 + k) t.2.1 t.2.2 (el t.2.1 ob k)) ∧
  (∀ k t, K.2.2[k]? = some t → q ≤ k → Fld Z h a K.1 t.1 (aD t.2.1) .null)
abbrev AH : Type := Nat × List (Nat × Nat × Rec)
def Rep (Z : State) (n0 : Nat) (h : Heap) (G : AH) : Prop :=
  h.size = G.1 ∧ Old Z n0 h ∧ (∀ x ∈ G.2, n0 ≤ x.1 ∧ x.1 + x.2.1 < G.1 ∧ ObjAt Z h x.1 x.2.1 x.2.2) ∧ G.2.Pairwise (fun x y => x.1 + x.2.1 < y.1 ∨ y.1 + y.2.1 < x.1)
section Facts
variable {Z : State} {h h' : Heap} {a b : Nat} {q k n0 top : Nat} {ob ob' : Rec} {nd : String × String} {t : String × FieldType × Int32} {a0 : Array Value} {sl : Nat} {v : Value} {H : List (Nat × Nat × Rec)} {G : AH}
theorem fld_fr {C n d : String} (e : h'[a]? = h[a]?) (F : Fld Z h a C n d v) : Fld Z h' a C n d v := by
  obtain ⟨cell, cf, k, i, f, h1, r⟩ := F; exact ⟨cell, cf, k, i, f, e.trans h1, r⟩
theorem exa_fr {C : String} (e : h'[a]? = h[a]?) (F : Exa Z h a C) : Exa Z h' a C := by
  obtain ⟨cell, k, h1, r⟩ := F; exact ⟨cell, k, e.trans h1, r⟩
theorem arrAt_fr {ty : FieldType} {len : Int32} {w : Int32 → Value} (e : h'[a]? = h[a]?) (F : ArrAt Z h a ty len w) : ArrAt Z h' a ty len w := by
  obtain ⟨cl, A, r⟩ := F; exact ⟨cl, ⟨e.trans A.1, A.2⟩, r⟩
theorem ObjAt.frame (e : ∀ b, a ≤ b → b ≤ a + q → h'[b]? = h[b]?) (F : ObjAt Z h a q ob) : ObjAt Z h' a q ob := by
  have e0 := e a (Nat.le_refl _) (Nat.le_add_right _ _)
  refine ⟨exa_fr e0 F.1, fun k nd hk => fld_fr e0 (F.2.1 k nd hk), fun k t hk hq => ⟨fld_fr e0 (F.2.2.1 k t hk hq).1, arrAt_fr (e _ (by omega) (by omega)) (F.2.2.1 k t hk hq).2⟩, fun k t hk hq => fld_fr e0 (F.2.2.2 k t hk hq)⟩
theorem ObjAt.ext (E : Ext h h') (F : ObjAt Z h a q ob) : ObjAt Z h' a q ob := by
  refine ⟨F.1.ext E, fun k nd hk => (F.2.1 k nd hk).ext E, fun k t hk hq => ⟨(F.2.2.1 k t hk hq).1.ext E, ?_⟩, fun k t hk hq => (F.2.2.2 k t hk hq).ext E⟩
  obtain ⟨cl, A, r⟩ := (F.2.2.1 k t hk hq).2; exact ⟨cl, A.ext E, r⟩
theorem wr_ne (W : Wr h h' a sl v) (ne : b ≠ a) : h'[b]? = h[b]? := by
  obtain ⟨cell, -, -, -, rfl⟩ := W; exact Array.getElem?_setIfInBounds_ne (Ne.symm ne)
theorem laidS (hw : ∀ d ∈ tables_1, d.before a0 Z = true) (hk : K.2.1[k]? = some nd) : Laid Z a0 K.1 K.1 nd.1 nd.2 := ((All.mem kS (List.mem_of_getElem? hk)).1).imp (hw _) (hw _)
theorem laidA (hw : ∀ d ∈ tables_1, d.before a0 Z = true) (hk : K.2.2[k]? = some t) : Laid Z a0 K.1 K.1 t.1 (aD t.2.1) := ((All.mem kA (List.mem_of_getElem? hk)).1).imp (hw _) (hw _)
theorem pfS (hk : K.2.1[k]? = some nd) : ∃ ty, parseFieldDescriptor nd.2 = some ty := by
  rcases (All.mem kS (List.mem_of_getElem? hk)).2 with e | e <;> rw [e]
  · exact ⟨.int, by decide⟩
  · exact ⟨.boolean, by decide⟩
theorem pfA (hk : K.2.2[k]? = some t) : parseFieldDescriptor (aD t.2.1) = some (.array t.2.1) := by
  rcases (All.mem kA (List.mem_of_getElem? hk)).2.1 with e | e | e <;> rw [e] <;> decide
theorem ObjAt.putI {x : Int32} (hw : ∀ d ∈ tables_1, d.before a0 Z = true) (F : ObjAt Z h a q ob) (hk : K.2.1[k]? = some nd) (W : Wr h h' a (Jvm.RoadKit.slotOf Z K.1 nd.1 nd.2) (.int x)) : ObjAt Z h' a q (sI ob k x) := by
  obtain ⟨ty, hty⟩ := pfS hk
  refine ⟨F.1.wr W, fun k' nd' hk' => ?_, fun k' t hk' hq => ⟨(F.2.2.1 k' t hk' hq).1.other W (Or.inr (Jvm.RoadKit.slot_ne (laidA hw hk') (laidS hw hk) (Ne.symm (nm_sa hk hk')) (pfA hk') hty)), ?_⟩, fun k' t hk' hq => (F.2.2.2 k' t hk' hq).other W (Or.inr (Jvm.RoadKit.slot_ne (laidA hw hk') (laidS hw hk) (Ne.symm (nm_sa hk hk')) (pfA hk') hty))⟩
  · by_cases e : k' = k
    · subst e; cases hk.symm.trans hk'
      have := (F.2.1 k' nd hk).same W
      simpa [sI] using this
    · obtain ⟨ty', hty'⟩ := pfS hk'
      have := (F.2.1 k' nd' hk').other W (Or.inr (Jvm.RoadKit.slot_ne (laidS hw hk') (laidS hw hk) (nm_ss hk' hk e) hty' hty))
      simpa [sI, e] using this
  · have := arrAt_fr (wr_ne W (by omega)) (F.2.2.1 k' t hk' hq).2
    have e : el t.2.1 (sI ob k x) k' = el t.2.1 ob k' := by funext j; unfold el; split <;> rfl
    rw [e]; exact this
theorem ObjAt.putA (F : ObjAt Z h a q ob) (hk : K.2.2[k]? = some t) (hq : k < q) {x : Value} {j : Int32} (hj : ¬ j < 0 ∧ j < t.2.2) (W : Wr h h' (a + 1 + k) j.toNatClampNeg x)
    (e1 : el t.2.1 ob' k = fun i => if i = j then x else el t.2.1 ob k i) (e2 : ∀ k' t', k' ≠ k → el t' ob' k' = el t' ob k') (e3 : ob'.1 = ob.1) : ObjAt Z h' a q ob' := by
  have u : h'[a]? = h[a]? := wr_ne W (by omega)
  refine ⟨exa_fr u F.1, fun k' nd hk' => by rw [e3]; exact fld_fr u (F.2.1 k' nd hk'), fun k' t' hk' hq' => ⟨fld_fr u (F.2.2.1 k' t' hk' hq').1, ?_⟩, fun k' t' hk' hq' => fld_fr u (F.2.2.2 k' t' hk' hq')⟩
  by_cases e : k' = k
  · subst e; cases hk.symm.trans hk'
    obtain ⟨cl, A, S, V⟩ := (F.2.2.1 k' t hk hq).2
    have inb : ¬ (j < 0 ∨ cl.slots.size ≤ j.toNatClampNeg) := inb_of S hj
    refine ⟨_, A.same W, by rw [sz_set]; exact S, fun i h0 h1 => ?_⟩
    rw [e1]
    by_cases ei : i = j
    · simp only [ei, if_true]; exact get_hit inb rfl
    · simp only [ei, if_false]; rw [get_miss hj.1 h0 ei]; exact V i h0 h1
  · rw [e2 k' _ e]; exact arrAt_fr (wr_ne W (by omega)) (F.2.2.1 k' t' hk' hq').2
theorem el_sA {ty : FieldType} (ht : ty ≠ .long) (j x : Int32) : el ty (sA ob k j x) k = fun i => if i = j then .int x else el ty ob k i := by
  funext i; cases ty <;> first | exact absurd rfl ht | (simp only [el, sA, true_and]; split <;> rfl)
theorem el_sJ (j : Int32) (x : Int64) : el .long (sJ ob k j x) k = fun i => if i = j then .long x else el .long ob k i := by
  funext i; simp only [el, sJ, true_and]; split <;> rfl
theorem el_sA' (j x : Int32) (k' : Nat) (t' : FieldType) (ne : k' ≠ k) : el t' (sA ob k j x) k' = el t' ob k' := by
  funext i; cases t' <;> simp [el, sA, ne]
theorem el_sJ' (j : Int32) (x : Int64) (k' : Nat) (t' : FieldType) (ne : k' ≠ k) : el t' (sJ ob k j x) k' = el t' ob k' := by
  funext i; cases t' <;> simp [el, sJ, ne]
theorem Rep.upd (R : Rep Z n0 h (top, (a, q, ob) :: H)) (hs : h'.size = h.size) (hO : Old Z n0 h') (e : ∀ b, (b < a ∨ a + q < b) → h'[b]? = h[b]?) (F : ObjAt Z h' a q ob') : Rep Z n0 h' (top, (a, q, ob') :: H) := by
  obtain ⟨r1, r2, r3, r4⟩ := R
  refine ⟨hs.trans r1, hO, fun x hx => ?_, ?_⟩
  · rcases List.mem_cons.mp hx with rfl | hx
    · exact ⟨(r3 _ (List.mem_cons_self ..)).1, (r3 _ (List.mem_cons_self ..)).2.1, F⟩
    · obtain ⟨p1, p2, p3⟩ := r3 x (List.mem_cons_of_mem _ hx)
      refine ⟨p1, p2, p3.frame fun b h1 h2 => e b ?_⟩
      have := (List.pairwise_cons.mp r4).1 x hx
      simp only at this
      omega
  · have := List.pairwise_cons.mp r4
    exact List.pairwise_cons.mpr ⟨fun y hy => this.1 y hy, this.2⟩
theorem Rep.objs (R : Rep Z n0 h (top, (a, q, ob) :: H)) : n0 ≤ a ∧ a + q < top ∧ ObjAt Z h a q ob := R.2.2.1 _ (List.mem_cons_self ..)
theorem Rep.putI {x : Int32} (hw : ∀ d ∈ tables_1, d.before a0 Z = true) (R : Rep Z n0 h (top, (a, q, ob) :: H)) (hk : K.2.1[k]? = some nd) (W : Wr h h' a (Jvm.RoadKit.slotOf Z K.1 nd.1 nd.2) (.int x)) : Rep Z n0 h' (top, (a, q, sI ob k x) :: H) :=
  R.upd W.size (R.2.1.wr W R.objs.1) (fun b hb => wr_ne W (by omega)) (R.objs.2.2.putI hw hk W)
theorem Rep.putA {x j : Int32} (R : Rep Z n0 h (top, (a, q, ob) :: H)) (hk : K.2.2[k]? = some t) (hq : k < q) (ht : t.2.1 ≠ .long) (hj : ¬ j < 0 ∧ j < t.2.2) (W : Wr h h' (a + 1 + k) j.toNatClampNeg (.int x)) : Rep Z n0 h' (top, (a, q, sA ob k j x) :: H) :=
  R.upd W.size (R.2.1.wr W (by have := R.objs.1; omega)) (fun b hb => wr_ne W (by omega)) (R.objs.2.2.putA hk hq hj W (el_sA ht j x) (fun k' t' ne => el_sA' j x k' t' ne) rfl)
theorem Rep.putJ {j : Int32} {x : Int64} (R : Rep Z n0 h (top, (a, q, ob) :: H)) (hk : K.2.2[k]? = some t) (hq : k < q) (ht : t.2.1 = .long) (hj : ¬ j < 0 ∧ j < t.2.2) (W : Wr h h' (a + 1 + k) j.toNatClampNeg (.long x)) : Rep Z n0 h' (top, (a, q, sJ ob k j x) :: H) :=
  R.upd W.size (R.2.1.wr W (by have := R.objs.1; omega)) (fun b hb => wr_ne W (by omega)) (R.objs.2.2.putA hk hq hj W (by rw [ht]; exact el_sJ j x) (fun k' t' ne => el_sJ' j x k' t' ne) rfl)
theorem Rep.swap {x y : Nat × Nat × Rec} (R : Rep Z n0 h (top, x :: y :: H)) : Rep Z n0 h (top, y :: x :: H) := by
  obtain ⟨r1, r2, r3, r4⟩ := R
  refine ⟨r1, r2, fun z hz => r3 z ?_, ?_⟩
  · simp only [List.mem_cons] at hz ⊢
    rcases hz with e | e | e
    · exact Or.inr (Or.inl e)
    · exact Or.inl e
    · exact Or.inr (Or.inr e)
  · simp only [List.pairwise_cons, List.mem_cons] at r4 ⊢
    obtain ⟨p1, p2, p3⟩ := r4
    refine ⟨fun z hz => ?_, fun z hz => p1 z (Or.inr hz), p3⟩
    rcases hz with rfl | hz
    · exact (p1 _ (Or.inl rfl)).symm
    · exact p2 z hz
theorem ObjAt.addA (hw : ∀ d ∈ tables_1, d.before a0 Z = true) (F : ObjAt Z h a k ob) (hk : K.2.2[k]? = some t) (A : ArrAt Z h (a + 1 + k) t.2.1 t.2.2 (el t.2.1 ob k)) (W : Wr h h' a (Jvm.RoadKit.slotOf Z K.1 t.1 (aD t.2.1)) (.ref (a + 1 + k))) : ObjAt Z h' a (k + 1) ob := by
  refine ⟨F.1.wr W, fun k' nd hk' => ?_, fun k' t' hk' hq => ?_, fun k' t' hk' hq => ?_⟩
  · obtain ⟨ty', hty'⟩ := pfS hk'
    exact (F.2.1 k' nd hk').other W (Or.inr (Jvm.RoadKit.slot_ne (laidS hw hk') (laidA hw hk) (nm_sa hk' hk) hty' (pfA hk)))
  · by_cases e : k' = k
    · subst e
      have et : t = t' := Option.some.inj (hk.symm.trans hk')
      subst et
      exact ⟨(F.2.2.2 k' t hk (Nat.le_refl _)).same W, arrAt_fr (wr_ne W (by omega)) A⟩
    · obtain ⟨f1, f2⟩ := F.2.2.1 k' t' hk' (by omega)
      exact ⟨f1.other W (Or.inr (Jvm.RoadKit.slot_ne (laidA hw hk') (laidA hw hk) (nm_aa hk' hk e) (pfA hk') (pfA hk))), arrAt_fr (wr_ne W (by omega)) f2⟩
  · exact (F.2.2.2 k' t' hk' (by omega)).other W (Or.inr (Jvm.RoadKit.slot_ne (laidA hw hk') (laidA hw hk) (nm_aa hk' hk (by omega)) (pfA hk') (pfA hk)))
theorem Rep.addA {h1 h2 : Heap} (hw : ∀ d ∈ tables_1, d.before a0 Z = true) (R : Rep Z n0 h (top, (a, k, ob) :: H)) (E : Ext h h1) (s1 : h1.size = top + 1) (htop : top = a + 1 + k) (hk : K.2.2[k]? = some t) (A : ArrAt Z h1 top t.2.1 t.2.2 (el t.2.1 ob k)) (W : Wr h1 h2 a (Jvm.RoadKit.slotOf Z K.1 t.1 (aD t.2.1)) (.ref top)) : Rep Z n0 h2 (top + 1, (a, k + 1, ob) :: H) := by
  obtain ⟨q1, q2, q3⟩ := R.objs
  have hp := List.pairwise_cons.mp R.2.2.2
  have hO : ObjAt Z h2 a (k + 1) ob := by
    subst htop
    exact (q3.ext E).addA hw hk A W
  refine ⟨W.size.trans s1, (R.2.1.ext E).wr W q1, List.forall_mem_cons.mpr ⟨⟨q1, ?_, hO⟩, fun x hx => ?_⟩, List.pairwise_cons.mpr ⟨fun y hy => ?_, hp.2⟩⟩
  · show a + (k + 1) < top + 1; omega
  · obtain ⟨p1, p2, p3⟩ := R.2.2.1 x (List.mem_cons_of_mem _ hx)
    have u1 : a + k < x.1 ∨ x.1 + x.2.1 < a := hp.1 x hx
    have u2 : x.1 + x.2.1 < top := p2
    exact ⟨p1, Nat.lt_succ_of_lt u2, (p3.ext E).frame fun b h1 h2 => wr_ne W (by omega)⟩
  · have u1 : a + k < y.1 ∨ y.1 + y.2.1 < a := hp.1 y hy
    have u2 : y.1 + y.2.1 < top := (R.2.2.1 y (List.mem_cons_of_mem _ hy)).2.1
    show a + (k + 1) < y.1 ∨ y.1 + y.2.1 < a
    omega
theorem arr_new {cA : ClassId} {ty : FieldType} {len : Int32} (A : Arr Z h b (newA cA ty len) ty) (hts : ty = .int ∨ ty = .boolean ∨ ty = .long) (hz : (∀ i, ob.2.1 k i = 0) ∧ (∀ i, ob.2.2 k i = 0)) : ArrAt Z h b ty len (el ty ob k) := by
  refine ⟨_, A, sz_new _ _ _, fun i h0 h1 => ?_⟩
  have hi : ¬ (i < 0 ∨ len.toNatClampNeg ≤ i.toNatClampNeg) := by
    have e0 : (0 : Int32).toInt = 0 := rfl
    simp only [Int32.lt_iff_toInt_lt, Int32.toNatClampNeg] at *
    omega
  rw [get_new hi]
  rcases hts with rfl | rfl | rfl
  · show some (Value.int 0) = some (Value.int (ob.2.1 k i)); rw [hz.1]
  · show some (Value.int 0) = some (Value.int (ob.2.1 k i)); rw [hz.1]
  · show some (Value.long 0) = some (Value.long (ob.2.2 k i)); rw [hz.2]
theorem Rep.start (s : State) : Rep s s.heap.size s.heap (s.heap.size, []) := ⟨rfl, Old.start s, fun x hx => (by cases hx), List.Pairwise.nil⟩
end Facts
/- bodies, decode facts, patterns of local variables -/
abbrev Bdy : Type := MethodName × ByteArray × Nat × Option FieldType × Room
def DAt (M : Bdy) (pc : Nat) (i : Instr) (n q : Nat) : Prop := decode M.2.1 pc = .ok (i, n) ∧ q = pc + n
abbrev Pat : Type := List (Option Slot)
abbrev vi (x : Int32) : Option Slot := some (.val (.int x))
abbrev vl (x : Int64) : Option Slot := some (.val (.long x))
abbrev vr (a : Nat) : Option Slot := some (.val (.ref a))
abbrev v2 : Option Slot := some .second
abbrev vn : Option Slot := none
def pget : Pat → Nat → Option Slot
  | [], _ => none
  | x :: _, 0 => x
  | _ :: l, n + 1 => pget l n
theorem pget_eq : ∀ (P : Pat) (i : Nat), pget P i = (P[i]?).join
  | [], _ => by simp [pget]
  | x :: l, 0 => by simp [pget]
  | x :: l, n + 1 => by simp [pget, pget_eq l n]
def pput : Pat → Nat → Option Slot → Pat
  | [], _, _ => []
  | _ :: l, 0, y => y :: l
  | x :: l, n + 1, y => x :: pput l n y
theorem pget_pput : ∀ (P : Pat) (i j : Nat) (y : Option Slot) (s : Slot), pget (pput P i y) j = some s → (j = i ∧ y = some s) ∨ (j ≠ i ∧ pget P j = some s)
  | [], _, _, _, _, h => by simp [pput, pget] at h
  | x :: l, 0, 0, y, s, h => Or.inl ⟨rfl, h⟩
  | x :: l, 0, j + 1, y, s, h => Or.inr ⟨by omega, h⟩
  | x :: l, i + 1, 0, y, s, h => Or.inr ⟨by omega, h⟩
  | x :: l, i + 1, j + 1, y, s, h => by
    rcases pget_pput l i j y s h with ⟨e, r⟩ | ⟨e, r⟩
    · exact Or.inl ⟨by omega, r⟩
    · exact Or.inr ⟨by omega, r⟩
/-- a two-word value whose first word is at i is forgotten -/
def pk1 (P : Pat) (i : Nat) : Pat := match pget P i with
  | some (.val (.long _)) => pput P i none
  | some (.val (.double _)) => pput P i none
  | _ => P
def pk2 (P : Pat) (i : Nat) : Pat := match pget P i with
  | some .second => pput P i none
  | _ => P
def pkp (P : Pat) : Nat → Pat
  | 0 => P
  | i + 1 => pk1 P i
def ps1 (P : Pat) (i : Nat) (v : Value) : Pat := pput (pk2 (pkp P i) (i + 1)) i (some (.val v))
def ps2 (P : Pat) (i : Nat) (v : Value) : Pat := pput (pput (pk2 (pkp P i) (i + 2)) i (some (.val v))) (i + 1) (some .second)
def WFl (L : Array Slot) : Prop := (∀ i : Nat, L[i]? = some .second → ∃ (j : Nat) (v : Value), i = j + 1 ∧ L[j]? = some (.val v) ∧ v.category = 2) ∧ (∀ (i : Nat) (v : Value), L[i]? = some (.val v) → v.category = 2 → L[i + 1]? = some .second)
def Fits (P : Pat) (L : Array Slot) : Prop := (∀ i s, pget P i = some s → L[i]? = some s) ∧ WFl L
theorem pk1_sub {P : Pat} {i j : Nat} {s : Slot} (h : pget (pk1 P i) j = some s) : pget P j = some s ∧ (j = i → ∀ w : Value, s = .val w → w.category = 1) := by
  unfold pk1 at h
  split at h
  · rcases pget_pput _ _ _ _ _ h with ⟨-, e⟩ | ⟨e, r⟩
    · cases e
    · exact ⟨r, fun q => absurd q e⟩
  · rcases pget_pput _ _ _ _ _ h with ⟨-, e⟩ | ⟨e, r⟩
    · cases e
    · exact ⟨r, fun q => absurd q e⟩
  · rename_i h1 h2
    refine ⟨h, fun q w e => ?_⟩
    subst q e
    cases w <;> first | rfl | exact absurd h (h1 _) | exact absurd h (h2 _)
theorem pk2_sub {P : Pat} {i j : Nat} {s : Slot} (h : pget (pk2 P i) j = some s) : pget P j = some s ∧ (j = i → s ≠ .second) := by
  unfold pk2 at h
  split at h
  · rcases pget_pput _ _ _ _ _ h with ⟨-, e⟩ | ⟨e, r⟩
    · cases e
    · exact ⟨r, fun q => absurd q e⟩
  · rename_i h1
    refine ⟨h, fun q e => ?_⟩
    subst q e; exact h1 h
theorem pkp_sub {P : Pat} {i j : Nat} {s : Slot} (h : pget (pkp P i) j = some s) : pget P j = some s ∧ (j + 1 = i → ∀ w : Value, s = .val w → w.category = 1) := by
  cases i with
  | zero => exact ⟨h, fun q => by omega⟩
  | succ i => obtain ⟨h1, h2⟩ := pk1_sub (show pget (pk1 P i) j = some s from h); exact ⟨h1, fun q => h2 (by omega)⟩
theorem setAt_eq {L : Array Slot} {i : Nat} {x : Slot} (hi : i < L.size) : Jvm.setAt L i x = some (L.setIfInBounds i x) := by simp [Jvm.setAt, hi]
theorem sl_second {L : Array Slot} {i : Nat} {v : Value} (ho : L[i]? = some .second) : storeLocals L i v = (Jvm.setAt L (i - 1) .unset).bind fun l => storeSelf l i v := by
  unfold storeLocals; rw [ho]; rfl
theorem sl_unset {L : Array Slot} {i : Nat} {v : Value} (ho : L[i]? = some .unset) : storeLocals L i v = storeSelf L i v := by
  unfold storeLocals; rw [ho]; rfl
theorem sl_val {L : Array Slot} {i : Nat} {v o : Value} (ho : L[i]? = some (.val o)) : storeLocals L i v = if o.category = 2 then (Jvm.setAt L (i + 1) .unset).bind fun l => storeSelf l i v else storeSelf L i v := by
  unfold storeLocals; rw [ho]; rfl
theorem ss_one {L : Array Slot} {i : Nat} {v : Value} (hi : i < L.size) (hv : ¬ v.category = 2) : storeSelf L i v = some (L.setIfInBounds i (.val v)) := by
  unfold storeSelf; rw [setAt_eq hi]; simp [hv]
theorem ss_two {L : Array Slot} {i : Nat} {v : Value} {o : Slot} (hi : i < L.size) (hv : v.category = 2) (ho : L[i + 1]? = some o) : storeSelf L i v = (match o with
    | .val old => if old.category = 2 then (Jvm.setAt (L.setIfInBounds i (.val v)) (i + 2) .unset).bind fun l => Jvm.setAt l (i + 1) .second else Jvm.setAt (L.setIfInBounds i (.val v)) (i + 1) .second
    | _ => Jvm.setAt (L.setIfInBounds i (.val v)) (i + 1) .second) := by
  have e : (L.setIfInBounds i (.val v))[i + 1]? = some o := by rw [Array.getElem?_setIfInBounds_ne (by omega)]; exact ho
  unfold storeSelf; rw [setAt_eq hi]
  show (if v.category = 2 then _ else _) = _
  rw [if_pos hv, e]
  cases o <;> rfl
theorem cat12 (v : Value) : v.category = 1 ∨ v.category = 2 := by cases v <;> first | exact Or.inl rfl | exact Or.inr rfl
/-- a one-word store: what stands elsewhere stays, but for the halves of a two-word value that it breaks -/
theorem store_one {L : Array Slot} {i : Nat} {v : Value} (hW : WFl L) (hi : i < L.size) (hv : v.category = 1) :
    ∃ L', storeLocals L i v = some L' ∧ L'.size = L.size ∧ WFl L' ∧ L'[i]? = some (.val v) ∧ ∀ j, j ≠ i → L'[j]? = L[j]? ∨ (j + 1 = i ∧ L[i]? = some .second) ∨ (j = i + 1 ∧ L[j]? = some .second) := by
  have hv2 : ¬ v.category = 2 := by omega
  cases ho : L[i]? with
  | none => rw [Array.getElem?_eq_none_iff] at ho; omega
  | some o =>
    cases o with
    | unset =>
      refine ⟨L.setIfInBounds i (.val v), ?_, by simp, ?_, by simp [hi], fun j hj => Or.inl (Array.getElem?_setIfInBounds_ne (Ne.symm hj))⟩
      · rw [sl_unset ho, ss_one hi hv2]
      · refine ⟨fun j hj => ?_, fun j w hj hw => ?_⟩
        · by_cases e : j = i
          · subst e; simp [hi] at hj
          · rw [Array.getElem?_setIfInBounds_ne (Ne.symm e)] at hj
            obtain ⟨j', w, e1, e2, e3⟩ := hW.1 j hj
            refine ⟨j', w, e1, ?_, e3⟩
            rw [Array.getElem?_setIfInBounds_ne]; exact e2
            intro q; subst q; rw [ho] at e2; cases e2
        · by_cases e : j = i
          · subst e; simp [hi] at hj; subst hj; omega
          · rw [Array.getElem?_setIfInBounds_ne (Ne.symm e)] at hj
            have := hW.2 j w hj hw
            rw [Array.getElem?_setIfInBounds_ne]; exact this
            intro q; subst q; rw [ho] at this; cases this
    | second =>
      obtain ⟨j0, w0, rfl, f2, f3⟩ := hW.1 i ho
      have hj0 : j0 < L.size := by omega
      refine ⟨(L.setIfInBounds j0 .unset).setIfInBounds (j0 + 1) (.val v), ?_, by simp, ?_, by simp [hi], fun j hj => ?_⟩
      · rw [sl_second ho, show j0 + 1 - 1 = j0 from rfl, setAt_eq hj0]; exact ss_one (by simpa using hi) hv2
      · refine ⟨fun j hj => ?_, fun j w hj hw => ?_⟩
        · by_cases e : j = j0 + 1
          · subst e; simp [hi] at hj
          · rw [Array.getElem?_setIfInBounds_ne (Ne.symm e)] at hj
            by_cases e' : j = j0
            · subst e'; simp [hj0] at hj
            · rw [Array.getElem?_setIfInBounds_ne (Ne.symm e')] at hj
              obtain ⟨j', w, e1, e2, e3⟩ := hW.1 j hj
              refine ⟨j', w, e1, ?_, e3⟩
              rw [Array.getElem?_setIfInBounds_ne, Array.getElem?_setIfInBounds_ne]
              · exact e2
              · intro q; subst q; omega
              · intro q; subst q; rw [ho] at e2; cases e2
        · by_cases e : j = j0 + 1
          · subst e; simp [hi] at hj; subst hj; omega
          · rw [Array.getElem?_setIfInBounds_ne (Ne.symm e)] at hj
            by_cases e' : j = j0
            · subst e'; simp [hj0] at hj
            · rw [Array.getElem?_setIfInBounds_ne (Ne.symm e')] at hj
              have := hW.2 j w hj hw
              rw [Array.getElem?_setIfInBounds_ne, Array.getElem?_setIfInBounds_ne]
              · exact this
              · intro q; subst q; rw [f2] at this; cases this
              · omega
      · by_cases e' : j = j0
        · exact Or.inr (Or.inl ⟨by omega, rfl⟩)
        · left; rw [Array.getElem?_setIfInBounds_ne (Ne.symm hj), Array.getElem?_setIfInBounds_ne (Ne.symm e')]
    | val old =>
      by_cases hc : old.category = 2
      · have f2 := hW.2 i old ho hc
        have hi1 : i + 1 < L.size := (Array.getElem?_eq_some_iff.mp f2).1
        refine ⟨(L.setIfInBounds (i + 1) .unset).setIfInBounds i (.val v), ?_, by simp, ?_, by simp [hi], fun j hj => ?_⟩
        · rw [sl_val ho, if_pos hc, setAt_eq hi1]; exact ss_one (by simpa using hi) hv2
        · refine ⟨fun j hj => ?_, fun j w hj hw => ?_⟩
          · by_cases e : j = i
            · subst e; simp [hi] at hj
            · rw [Array.getElem?_setIfInBounds_ne (Ne.symm e)] at hj
              by_cases e' : j = i + 1
              · subst e'; simp [hi1] at hj
              · rw [Array.getElem?_setIfInBounds_ne (Ne.symm e')] at hj
                obtain ⟨j', w, e1, e2, e3⟩ := hW.1 j hj
                refine ⟨j', w, e1, ?_, e3⟩
                rw [Array.getElem?_setIfInBounds_ne, Array.getElem?_setIfInBounds_ne]
                · exact e2
                · intro q; subst q; rw [f2] at e2; cases e2
                · omega
          · by_cases e : j = i
            · subst e; simp [hi] at hj; subst hj; omega
            · rw [Array.getElem?_setIfInBounds_ne (Ne.symm e)] at hj
              by_cases e' : j = i + 1
              · subst e'; simp [hi1] at hj
              · rw [Array.getElem?_setIfInBounds_ne (Ne.symm e')] at hj
                have := hW.2 j w hj hw
                rw [Array.getElem?_setIfInBounds_ne, Array.getElem?_setIfInBounds_ne]
                · exact this
                · omega
                · intro q; subst q; rw [ho] at this; cases this
        · by_cases e' : j = i + 1
          · subst e'; exact Or.inr (Or.inr ⟨rfl, f2⟩)
          · left; rw [Array.getElem?_setIfInBounds_ne (Ne.symm hj), Array.getElem?_setIfInBounds_ne (Ne.symm e')]
      · refine ⟨L.setIfInBounds i (.val v), ?_, by simp, ?_, by simp [hi], fun j hj => Or.inl (Array.getElem?_setIfInBounds_ne (Ne.symm hj))⟩
        · rw [sl_val ho, if_neg hc, ss_one hi hv2]
        · refine ⟨fun j hj => ?_, fun j w hj hw => ?_⟩
          · by_cases e : j = i
            · subst e; simp [hi] at hj
            · rw [Array.getElem?_setIfInBounds_ne (Ne.symm e)] at hj
              obtain ⟨j', w, e1, e2, e3⟩ := hW.1 j hj
              refine ⟨j', w, e1, ?_, e3⟩
              rw [Array.getElem?_setIfInBounds_ne]; exact e2
              intro q; subst q; rw [ho] at e2; cases e2; omega
          · by_cases e : j = i
            · subst e; simp [hi] at hj; subst hj; omega
            · rw [Array.getElem?_setIfInBounds_ne (Ne.symm e)] at hj
              have := hW.2 j w hj hw
              rw [Array.getElem?_setIfInBounds_ne]; exact this
              intro q; subst q; rw [ho] at this; cases this
theorem Fits.store1 {P : Pat} {L : Array Slot} {i : Nat} {v : Value} (h : Fits P L) (hi : i < L.size) (hv : v.category = 1) :
    ∃ L', storeLocals L i v = some L' ∧ L'.size = L.size ∧ Fits (ps1 P i v) L' := by
  obtain ⟨L', e1, e2, e3, e4, e5⟩ := store_one h.2 hi hv
  refine ⟨L', e1, e2, fun j s hj => ?_, e3⟩
  rcases pget_pput _ _ _ _ _ hj with ⟨rfl, q⟩ | ⟨ne, q⟩
  · rw [e4]; exact q
  · obtain ⟨q1, q2⟩ := pk2_sub q
    obtain ⟨q3, q4⟩ := pkp_sub q1
    have hL := h.1 j s q3
    rcases e5 j ne with r | ⟨r1, r2⟩ | ⟨r1, r2⟩
    · rw [r]; exact hL
    · obtain ⟨j', w, z1, z2, z3⟩ := h.2.1 i r2
      have : j' = j := by omega
      subst this
      rw [hL] at z2; cases z2
      have := q4 r1 w rfl; omega
    · rw [hL] at r2; cases r2
      exact absurd rfl (q2 r1)
theorem st_ph1 {L : Array Slot} {i : Nat} {v : Value} (hW : WFl L) (hi : i + 1 < L.size) :
    ∃ A : Array Slot, storeLocals L i v = storeSelf A i v ∧ A.size = L.size ∧ (∀ j, j ≠ i → j ≠ i + 1 → A[j]? = L[j]? ∨ (j + 1 = i ∧ L[i]? = some .second ∧ A[j]? = some .unset)) ∧ (A[i + 1]? = L[i + 1]? ∨ (A[i + 1]? = some .unset ∧ L[i + 1]? = some .second)) ∧ (L[i]? = some .second → ∀ j, j + 1 = i → A[j]? = some .unset) := by
  have hi0 : i < L.size := by omega
  cases ho : L[i]? with
  | none => rw [Array.getElem?_eq_none_iff] at ho; omega
  | some o =>
    cases o with
    | unset => exact ⟨L, sl_unset ho, rfl, fun j _ _ => Or.inl rfl, Or.inl rfl, fun q => by cases q⟩
    | second =>
      obtain ⟨j0, w0, rfl, f2, f3⟩ := hW.1 i ho
      have hj0 : j0 < L.size := by omega
      refine ⟨L.setIfInBounds j0 .unset, by rw [sl_second ho, show j0 + 1 - 1 = j0 from rfl, setAt_eq hj0]; rfl, by simp, fun j h1 h2 => ?_, Or.inl (Array.getElem?_setIfInBounds_ne (by omega)), fun _ j hj => ?_⟩
      · by_cases e : j = j0
        · subst e; exact Or.inr ⟨rfl, rfl, by simp [hj0]⟩
        · exact Or.inl (Array.getElem?_setIfInBounds_ne (Ne.symm e))
      · have : j = j0 := by omega
        subst this; simp [hj0]
    | val old =>
      by_cases hc : old.category = 2
      · refine ⟨L.setIfInBounds (i + 1) .unset, by rw [sl_val ho, if_pos hc, setAt_eq hi]; rfl, by simp, fun j h1 h2 => Or.inl (Array.getElem?_setIfInBounds_ne (Ne.symm h2)), Or.inr ⟨by simp [hi], hW.2 i old ho hc⟩, fun q => by cases q⟩
      · exact ⟨L, by rw [sl_val ho, if_neg hc], rfl, fun j _ _ => Or.inl rfl, Or.inl rfl, fun q => by cases q⟩
theorem st_ph2 {A : Array Slot} {i : Nat} {v : Value} (hi : i + 1 < A.size) (hv : v.category = 2) (hn : ∀ w : Value, A[i + 1]? = some (.val w) → w.category = 2 → i + 2 < A.size) :
    ∃ L', storeSelf A i v = some L' ∧ L'.size = A.size ∧ L'[i]? = some (.val v) ∧ L'[i + 1]? = some .second ∧ (∀ j, j ≠ i → j ≠ i + 1 → L'[j]? = A[j]? ∨ (j = i + 2 ∧ L'[j]? = some .unset ∧ ∃ w : Value, A[i + 1]? = some (.val w) ∧ w.category = 2)) ∧ ((∃ w : Value, A[i + 1]? = some (.val w) ∧ w.category = 2) → L'[i + 2]? = some .unset) := by
  have hi0 : i < A.size := by omega
  have eB : (A.setIfInBounds i (.val v))[i + 1]? = A[i + 1]? := Array.getElem?_setIfInBounds_ne (by omega)
  have plain : (∀ w : Value, A[i + 1]? = some (.val w) → w.category ≠ 2) → storeSelf A i v = some ((A.setIfInBounds i (.val v)).setIfInBounds (i + 1) .second) := fun hq => by
    cases ho : A[i + 1]? with
    | none => rw [Array.getElem?_eq_none_iff] at ho; omega
    | some o => cases o with
      | unset => rw [ss_two hi0 hv ho]; exact setAt_eq (by simpa using hi)
      | second => rw [ss_two hi0 hv ho]; exact setAt_eq (by simpa using hi)
      | val w => have := hq w ho; rw [ss_two hi0 hv ho]; simp only [if_neg this]; exact setAt_eq (by simpa using hi)
  by_cases hw : ∃ w : Value, A[i + 1]? = some (.val w) ∧ w.category = 2
  · obtain ⟨w, h1, h2⟩ := hw
    have h3 := hn w h1 h2
    refine ⟨((A.setIfInBounds i (.val v)).setIfInBounds (i + 2) .unset).setIfInBounds (i + 1) .second, by rw [ss_two hi0 hv h1]; simp only [if_pos h2]; rw [setAt_eq (by simpa using h3)]; exact setAt_eq (by simpa using hi), by simp, ?_, by simp [hi], fun j a b => ?_, fun _ => ?_⟩
    · rw [Array.getElem?_setIfInBounds_ne (by omega), Array.getElem?_setIfInBounds_ne (by omega)]; simp [hi0]
    · rw [Array.getElem?_setIfInBounds_ne (by omega)]
      by_cases e : j = i + 2
      · subst e; exact Or.inr ⟨rfl, by simp [h3], w, h1, h2⟩
      · left; rw [Array.getElem?_setIfInBounds_ne (by omega), Array.getElem?_setIfInBounds_ne (by omega)]
    · rw [Array.getElem?_setIfInBounds_ne (by omega)]; simp [h3]
  · refine ⟨_, plain fun w h1 h2 => hw ⟨w, h1, h2⟩, by simp, ?_, by simp [hi], fun j a b => Or.inl ?_, fun q => absurd q hw⟩
    · rw [Array.getElem?_setIfInBounds_ne (by omega)]; simp [hi0]
    · rw [Array.getElem?_setIfInBounds_ne (by omega), Array.getElem?_setIfInBounds_ne (by omega)]
theorem store_two {L : Array Slot} {i : Nat} {v : Value} (hW : WFl L) (hi : i + 1 < L.size) (hv : v.category = 2) :
    ∃ L', storeLocals L i v = some L' ∧ L'.size = L.size ∧ WFl L' ∧ L'[i]? = some (.val v) ∧ L'[i + 1]? = some .second ∧ ∀ j, j ≠ i → j ≠ i + 1 → L'[j]? = L[j]? ∨ (j + 1 = i ∧ L[i]? = some .second) ∨ (j = i + 2 ∧ L[j]? = some .second) := by
  obtain ⟨A, a1, a2, a3, a4, a5⟩ := st_ph1 (v := v) hW hi
  have a6 : ∀ w : Value, A[i + 1]? = some (.val w) → w.category = 2 → L[i + 2]? = some .second := fun w h1 h2 => by
    rcases a4 with e | ⟨e, -⟩
    · rw [e] at h1; exact hW.2 _ _ h1 h2
    · rw [e] at h1; cases h1
  obtain ⟨L', b1, b2, b3, b4, b5, b6⟩ := st_ph2 (A := A) (i := i) (v := v) (by omega) hv (fun w h1 h2 => by have := (Array.getElem?_eq_some_iff.mp (a6 w h1 h2)).1; omega)
  have c : ∀ j, j ≠ i → j ≠ i + 1 → L'[j]? = L[j]? ∨ (j + 1 = i ∧ L[i]? = some .second ∧ L'[j]? = some .unset) ∨ (j = i + 2 ∧ L[j]? = some .second ∧ L'[j]? = some .unset) := fun j h1 h2 => by
    rcases b5 j h1 h2 with e | ⟨e1, e2, w, e3, e4⟩
    · rcases a3 j h1 h2 with r | ⟨r1, r2, r3⟩
      · exact Or.inl (e.trans r)
      · exact Or.inr (Or.inl ⟨r1, r2, e.trans r3⟩)
    · subst e1; exact Or.inr (Or.inr ⟨rfl, a6 w e3 e4, e2⟩)
  have cs : L[i]? = some .second → ∀ j, j + 1 = i → L'[j]? = some .unset := fun q j hj => by
    rcases b5 j (by omega) (by omega) with e | ⟨e1, -⟩
    · exact e.trans (a5 q j hj)
    · omega
  have c2 : L[i + 2]? = some .second → L'[i + 2]? = some .unset := fun q => by
    obtain ⟨j', w, z1, z2, z3⟩ := hW.1 _ q
    have : j' = i + 1 := by omega
    subst this
    rcases a4 with e | ⟨-, e⟩
    · exact b6 ⟨w, e.trans z2, z3⟩
    · rw [e] at z2; cases z2
  refine ⟨L', a1.trans b1, b2.trans a2, ⟨fun j hj => ?_, fun j w hj hw => ?_⟩, b3, b4, fun j h1 h2 => ?_⟩
  · by_cases e0 : j = i
    · subst e0; rw [b3] at hj; cases hj
    by_cases e1 : j = i + 1
    · exact ⟨i, v, e1, b3, hv⟩
    rcases c j e0 e1 with r | ⟨-, -, r⟩ | ⟨-, -, r⟩
    · rw [r] at hj
      obtain ⟨j', w, z1, z2, z3⟩ := hW.1 j hj
      refine ⟨j', w, z1, ?_, z3⟩
      have n0 : j' ≠ i := by omega
      by_cases n1 : j' = i + 1
      · have : j = i + 2 := by omega
        subst this
        rw [c2 hj] at r; rw [hj] at r; cases r
      rcases c j' n0 n1 with u | ⟨u, -, -⟩ | ⟨-, u, -⟩
      · exact u.trans z2
      · omega
      · rw [z2] at u; cases u
    · rw [r] at hj; cases hj
    · rw [r] at hj; cases hj
  · by_cases e0 : j = i
    · subst e0; exact b4
    by_cases e1 : j = i + 1
    · subst e1; rw [b4] at hj; cases hj
    rcases c j e0 e1 with r | ⟨-, -, r⟩ | ⟨-, -, r⟩
    · have hj' := hj
      rw [r] at hj
      have z := hW.2 j w hj hw
      by_cases n0 : j + 1 = i
      · subst n0; rw [cs z j rfl] at hj'; cases hj'
      by_cases n1 : j + 1 = i + 1
      · omega
      rcases c (j + 1) n0 n1 with u | ⟨u1, u2, -⟩ | ⟨u, -, -⟩
      · exact u.trans z
      · obtain ⟨j', w', y1, y2, y3⟩ := hW.1 i u2
        have : j' = j + 1 := by omega
        subst this; rw [z] at y2; cases y2
      · omega
    · rw [r] at hj; cases hj
    · rw [r] at hj; cases hj
  · rcases c j h1 h2 with r | ⟨r1, r2, -⟩ | ⟨r1, r2, -⟩
    · exact Or.inl r
    · exact Or.inr (Or.inl ⟨r1, r2⟩)
    · exact Or.inr (Or.inr ⟨r1, r2⟩)
theorem Fits.store2 {P : Pat} {L : Array Slot} {i : Nat} {v : Value} (h : Fits P L) (hi : i + 1 < L.size) (hv : v.category = 2) :
    ∃ L', storeLocals L i v = some L' ∧ L'.size = L.size ∧ Fits (ps2 P i v) L' := by
  obtain ⟨L', e1, e2, e3, e4, e4', e5⟩ := store_two h.2 hi hv
  refine ⟨L', e1, e2, fun j s hj => ?_, e3⟩
  rcases pget_pput _ _ _ _ _ hj with ⟨rfl, q⟩ | ⟨ne, q⟩
  · rw [e4']; exact q
  rcases pget_pput _ _ _ _ _ q with ⟨rfl, q'⟩ | ⟨ne', q'⟩
  · rw [e4]; exact q'
  obtain ⟨q1, q2⟩ := pk2_sub q'
  obtain ⟨q3, q4⟩ := pkp_sub q1
  have hL := h.1 j s q3
  rcases e5 j ne' ne with r | ⟨r1, r2⟩ | ⟨r1, r2⟩
  · rw [r]; exact hL
  · obtain ⟨j', w, z1, z2, z3⟩ := h.2.1 i r2
    have : j' = j := by omega
    subst this
    rw [hL] at z2; cases z2
    have := q4 r1 w rfl; omega
  · rw [hL] at r2; cases r2
    exact absurd rfl (q2 r1)
/- what a body does from a place on -/
def Runs (C : Ctx) (M : Bdy) (k n pc : Nat) (P : Pat) (S : List Value) (G : AH) (Q : Option Value → AH → Prop) : Prop :=
  Ok C → ∀ (p : Program) (e : Env) (s : State) (m : MethodId) (args : Array Value) (below : List Frame) (meth : Method) (c : Code) (T : State) (locs : List Loc) (L : Array Slot),
    p.tables.exec = Jvm.exec → c.code = M.2.1 → c.maxLocals = M.2.2.1 → meth.sig.returnType = M.2.2.2.1 → meth.name = M.1.name → s.vm.findClass M.1.cls = some m.cls → C.2.1.Warmed39 s.vm →
    Fits P L → L.size = M.2.2.1 → Stand p C.1 e M.2.2.2.2 s m args below meth c T locs k n → Rep C.2.1 C.2.2.1 T.heap G → Fr C.2.2.1 locs →
    ∃ (T' : State) (locs' : List Loc) (k' n' : Nat) (r : Option Value) (G' : AH), Stand p C.1 e M.2.2.2.2 s m args below meth c T' locs' k' n' ∧ k' ≤ M.2.2.2.2.cells ∧ n' ≤ M.2.2.2.2.slots ∧ Rep C.2.1 C.2.2.1 T'.heap G' ∧ Fr C.2.2.1 locs' ∧ Q r G' ∧
      (M.2.2.2.1 = none → r = none) ∧
      ∀ fs : List Frame, (∀ (f : JFrame) (acts : List Action), f.method = m → f.locked = none → f.entered = [] → (doReturn e (T'.setTop f) acts r).1 = T'.setFrames fs) → Steps p.tables e below (T.setTop (mkF m pc L S)) (T'.setFrames fs)
section Rules
variable {C : Ctx} {M : Bdy} {k n pc q : Nat} {P P' : Pat} {S S' : List Value} {G : AH} {Q : Option Value → AH → Prop}
/-- a step that leaves the heap alone -/
theorem Runs.pure {i : Instr} {len : Nat} (d : DAt M pc i len q) {pc' : Nat}
    (st : ∀ (p : Program) (e : Env) (s : State) (m : MethodId) (args : Array Value) (below : List Frame) (meth : Method) (c : Code) (T : State) (locs : List Loc) (L : Array Slot), Ok C → p.tables.exec = Jvm.exec → s.vm.findClass M.1.cls = some m.cls → C.2.1.Warmed39 s.vm → decode c.code pc = .ok (i, len) → Fits P L → L.size = M.2.2.1 → Rep C.2.1 C.2.2.1 T.heap G →
      Stand p C.1 e M.2.2.2.2 s m args below meth c T locs k n → ∃ L', Fits P' L' ∧ L'.size = M.2.2.1 ∧ ∀ t, Steps p.tables e below (T.setTop (mkF m pc' L' S')) t → Steps p.tables e below (T.setTop (mkF m pc L S)) t)
    (h : Runs C M k n pc' P' S' G Q) : Runs C M k n pc P S G Q := by
  intro hw p e s m args below meth c T locs L hx hby hml hret hnm hown hZ hP hsz X hR hF
  obtain ⟨L', f1, f2, f3⟩ := st p e s m args below meth c T locs L hw hx hown hZ (hb hby d.1) hP hsz hR X
  obtain ⟨T', locs', k', n', r, G', g1, g2, g3, g4, g5, g6, g7, g8⟩ := h hw p e s m args below meth c T locs L' hx hby hml hret hnm hown hZ f1 f2 X hR hF
  exact ⟨T', locs', k', n', r, G', g1, g2, g3, g4, g5, g6, g7, fun fs hr => f3 _ (g8 fs hr)⟩
/-- a step that keeps the locals and what the heap says -/
theorem Runs.stk {i : Instr} {len : Nat} (d : DAt M pc i len q)
    (st : ∀ (p : Program) (e : Env) (s : State) (m : MethodId) (args : Array Value) (below : List Frame) (meth : Method) (c : Code) (T : State) (locs : List Loc) (L : Array Slot), p.tables.exec = Jvm.exec → decode c.code pc = .ok (i, len) → Fits P L →
      Stand p C.1 e M.2.2.2.2 s m args below meth c T locs k n → ∀ t, Steps p.tables e below (T.setTop (mkF m (pc + len) L S')) t → Steps p.tables e below (T.setTop (mkF m pc L S)) t)
    (h : Runs C M k n q P S' G Q) : Runs C M k n pc P S G Q := by
  have hq := d.2
  subst hq
  exact Runs.pure d (fun p e s m args below meth c T locs L _ hx _ _ hd hP hsz _ X => ⟨L, hP, hsz, st p e s m args below meth c T locs L hx hd hP X⟩) h
theorem Runs.iloadN {j : Fin 4} {v : Int32} (d : DAt M pc (.iload_n j) 1 q) (hl : pget P j.val = vi v) (h : Runs C M k n q P (.int v :: S) G Q) : Runs C M k n pc P S G Q :=
  Runs.stk d (fun p e s m args below meth c T locs L hx hd hP X t r => XS.iloadN (g := mkF m pc L S) X.here hx rfl hd (hP.1 _ _ hl) r) h
theorem Runs.iload {j : Nat} {v : Int32} (d : DAt M pc (.iload j) 2 q) (hl : pget P j = vi v) (h : Runs C M k n q P (.int v :: S) G Q) : Runs C M k n pc P S G Q :=
  Runs.stk d (fun p e s m args below meth c T locs L hx hd hP X t r => XS.iload (g := mkF m pc L S) X.here hx rfl hd (hP.1 _ _ hl) r) h
theorem Runs.lloadN {j : Fin 4} {v : Int64} (d : DAt M pc (.lload_n j) 1 q) (hl : pget P j.val = vl v) (h : Runs C M k n q P (.long v :: S) G Q) : Runs C M k n pc P S G Q :=
  Runs.stk d (fun p e s m args below meth c T locs L hx hd hP X t r => XS.lloadN (g := mkF m pc L S) X.here hx rfl hd (hP.1 _ _ hl) r) h
theorem Runs.lload {j : Nat} {v : Int64} (d : DAt M pc (.lload j) 2 q) (hl : pget P j = vl v) (h : Runs C M k n q P (.long v :: S) G Q) : Runs C M k n pc P S G Q :=
  Runs.stk d (fun p e s m args below meth c T locs L hx hd hP X t r => XS.lload (g := mkF m pc L S) X.here hx rfl hd (hP.1 _ _ hl) r) h
theorem Runs.aloadN {j : Fin 4} {v : Nat} (d : DAt M pc (.aload_n j) 1 q) (hl : pget P j.val = vr v) (h : Runs C M k n q P (.ref v :: S) G Q) : Runs C M k n pc P S G Q :=
  Runs.stk d (fun p e s m args below meth c T locs L hx hd hP X t r => XS.aloadN (g := mkF m pc L S) X.here hx rfl hd (hP.1 _ _ hl) rfl r) h
theorem Runs.aload {j : Nat} {v : Nat} (d : DAt M pc (.aload j) 2 q) (hl : pget P j = vr v) (h : Runs C M k n q P (.ref v :: S) G Q) : Runs C M k n pc P S G Q :=
  Runs.stk d (fun p e s m args below meth c T locs L hx hd hP X t r => XS.aload (g := mkF m pc L S) X.here hx rfl hd (hP.1 _ _ hl) rfl r) h
theorem Runs.iconst {i : Int} {v : Int32} (d : DAt M pc (.iconst i) 1 q) (hv : Int32.ofInt i = v) (h : Runs C M k n q P (.int v :: S) G Q) : Runs C M k n pc P S G Q :=
  Runs.stk d (fun p e s m args below meth c T locs L hx hd hP X t r => XS.iconst (g := mkF m pc L S) X.here hx rfl hd (by rw [hv]; exact r)) h
theorem Runs.bipush {i : Int} {v : Int32} (d : DAt M pc (.bipush i) 2 q) (hv : (Int8.ofInt i).toInt32 = v) (h : Runs C M k n q P (.int v :: S) G Q) : Runs C M k n pc P S G Q :=
  Runs.stk d (fun p e s m args below meth c T locs L hx hd hP X t r => XS.bipush (g := mkF m pc L S) X.here hx rfl hd (by rw [hv]; exact r)) h
theorem Runs.sipush {i : Int} {v : Int32} (d : DAt M pc (.sipush i) 3 q) (hv : (Int16.ofInt i).toInt32 = v) (h : Runs C M k n q P (.int v :: S) G Q) : Runs C M k n pc P S G Q :=
  Runs.stk d (fun p e s m args below meth c T locs L hx hd hP X t r => XS.sipush (g := mkF m pc L S) X.here hx rfl hd (by rw [hv]; exact r)) h
theorem Runs.lconst {i : Fin 2} {v : Int64} (d : DAt M pc (.lconst i) 1 q) (hv : Int64.ofNat i = v) (h : Runs C M k n q P (.long v :: S) G Q) : Runs C M k n pc P S G Q :=
  Runs.stk d (fun p e s m args below meth c T locs L hx hd hP X t r => Jvm.Free.XT.lconstV (g := mkF m pc L S) X.here hx rfl v hd hv r) h
theorem Runs.ldc {i : Nat} {v : Int32} (d : DAt M pc (.ldc i) 2 q) (w : Jvm.Cond.constant M.1.cls i v ∈ tables_1) (h : Runs C M k n q P (.int v :: S) G Q) : Runs C M k n pc P S G Q := by
  have hq := d.2
  subst hq
  exact Runs.pure d (fun p e s m args below meth c T locs L hw hx hown hZ hd hP hsz _ X => ⟨L, hP, hsz, fun t r => X.ldcInt hx hown (mvT hZ (hw _ w)) (g := mkF m pc L S) rfl hd t r⟩) h
theorem Runs.ldc2 {i : Nat} {v : Int64} (d : DAt M pc (.ldc2_w i) 3 q) (w : Jvm.Cond.constantLong M.1.cls i v ∈ tables_1) (h : Runs C M k n q P (.long v :: S) G Q) : Runs C M k n pc P S G Q := by
  have hq := d.2
  subst hq
  exact Runs.pure d (fun p e s m args below meth c T locs L hw hx hown hZ hd hP hsz _ X => ⟨L, hP, hsz, fun t r => X.ldc2Long hx hown (mvT hZ (hw _ w)) (g := mkF m pc L S) rfl hd t r⟩) h
theorem Runs.iadd {x y : Int32} (d : DAt M pc .iadd 1 q) (h : Runs C M k n q P (.int (x + y) :: S) G Q) : Runs C M k n pc P (.int y :: .int x :: S) G Q :=
  Runs.stk d (fun p e s m args below meth c T locs L hx hd hP X t r => XS.iadd (g := mkF m pc L (.int y :: .int x :: S)) X.here hx rfl hd rfl r) h
theorem Runs.isub {x y : Int32} (d : DAt M pc .isub 1 q) (h : Runs C M k n q P (.int (x - y) :: S) G Q) : Runs C M k n pc P (.int y :: .int x :: S) G Q :=
  Runs.stk d (fun p e s m args below meth c T locs L hx hd hP X t r => XS.isub (g := mkF m pc L (.int y :: .int x :: S)) X.here hx rfl hd rfl r) h
theorem Runs.imul {x y : Int32} (d : DAt M pc .imul 1 q) (h : Runs C M k n q P (.int (x * y) :: S) G Q) : Runs C M k n pc P (.int y :: .int x :: S) G Q :=
  Runs.stk d (fun p e s m args below meth c T locs L hx hd hP X t r => XS.imul (g := mkF m pc L (.int y :: .int x :: S)) X.here hx rfl hd rfl r) h
theorem Runs.iand {x y : Int32} (d : DAt M pc .iand 1 q) (h : Runs C M k n q P (.int (x &&& y) :: S) G Q) : Runs C M k n pc P (.int y :: .int x :: S) G Q :=
  Runs.stk d (fun p e s m args below meth c T locs L hx hd hP X t r => XS.iand (g := mkF m pc L (.int y :: .int x :: S)) X.here hx rfl hd rfl r) h
theorem Runs.ior {x y : Int32} (d : DAt M pc .ior 1 q) (h : Runs C M k n q P (.int (x ||| y) :: S) G Q) : Runs C M k n pc P (.int y :: .int x :: S) G Q :=
  Runs.stk d (fun p e s m args below meth c T locs L hx hd hP X t r => XS.ior (g := mkF m pc L (.int y :: .int x :: S)) X.here hx rfl hd rfl r) h
theorem Runs.ixor {x y : Int32} (d : DAt M pc .ixor 1 q) (h : Runs C M k n q P (.int (x ^^^ y) :: S) G Q) : Runs C M k n pc P (.int y :: .int x :: S) G Q :=
  Runs.stk d (fun p e s m args below meth c T locs L hx hd hP X t r => XS.ixor (g := mkF m pc L (.int y :: .int x :: S)) X.here hx rfl hd rfl r) h
theorem Runs.ladd {x y : Int64} (d : DAt M pc .ladd 1 q) (h : Runs C M k n q P (.long (x + y) :: S) G Q) : Runs C M k n pc P (.long y :: .long x :: S) G Q :=
  Runs.stk d (fun p e s m args below meth c T locs L hx hd hP X t r => XS.ladd (g := mkF m pc L (.long y :: .long x :: S)) X.here hx rfl hd rfl r) h
theorem Runs.lsub {x y : Int64} (d : DAt M pc .lsub 1 q) (h : Runs C M k n q P (.long (x - y) :: S) G Q) : Runs C M k n pc P (.long y :: .long x :: S) G Q :=
  Runs.stk d (fun p e s m args below meth c T locs L hx hd hP X t r => XS.lsub (g := mkF m pc L (.long y :: .long x :: S)) X.here hx rfl hd rfl r) h
theorem Runs.lmul {x y : Int64} (d : DAt M pc .lmul 1 q) (h : Runs C M k n q P (.long (x * y) :: S) G Q) : Runs C M k n pc P (.long y :: .long x :: S) G Q :=
  Runs.stk d (fun p e s m args below meth c T locs L hx hd hP X t r => XS.lmul (g := mkF m pc L (.long y :: .long x :: S)) X.here hx rfl hd rfl r) h
theorem Runs.land {x y : Int64} (d : DAt M pc .land 1 q) (h : Runs C M k n q P (.long (x &&& y) :: S) G Q) : Runs C M k n pc P (.long y :: .long x :: S) G Q :=
  Runs.stk d (fun p e s m args below meth c T locs L hx hd hP X t r => XS.land (g := mkF m pc L (.long y :: .long x :: S)) X.here hx rfl hd rfl r) h
theorem Runs.lor {x y : Int64} (d : DAt M pc .lor 1 q) (h : Runs C M k n q P (.long (x ||| y) :: S) G Q) : Runs C M k n pc P (.long y :: .long x :: S) G Q :=
  Runs.stk d (fun p e s m args below meth c T locs L hx hd hP X t r => XS.lor (g := mkF m pc L (.long y :: .long x :: S)) X.here hx rfl hd rfl r) h
theorem Runs.lxor {x y : Int64} (d : DAt M pc .lxor 1 q) (h : Runs C M k n q P (.long (x ^^^ y) :: S) G Q) : Runs C M k n pc P (.long y :: .long x :: S) G Q :=
  Runs.stk d (fun p e s m args below meth c T locs L hx hd hP X t r => XS.lxor (g := mkF m pc L (.long y :: .long x :: S)) X.here hx rfl hd rfl r) h
theorem Runs.ishl {x : Int32} {y : Int32} (d : DAt M pc .ishl 1 q) (h : Runs C M k n q P (.int (x <<< (y &&& 31)) :: S) G Q) : Runs C M k n pc P (.int y :: .int x :: S) G Q :=
  Runs.stk d (fun p e s m args below meth c T locs L hx hd hP X t r => XS.ishl (g := mkF m pc L (.int y :: .int x :: S)) X.here hx rfl hd rfl r) h
theorem Runs.ishr {x : Int32} {y : Int32} (d : DAt M pc .ishr 1 q) (h : Runs C M k n q P (.int (x >>> (y &&& 31)) :: S) G Q) : Runs C M k n pc P (.int y :: .int x :: S) G Q :=
  Runs.stk d (fun p e s m args below meth c T locs L hx hd hP X t r => XS.ishr (g := mkF m pc L (.int y :: .int x :: S)) X.here hx rfl hd rfl r) h
theorem Runs.iushr {x : Int32} {y : Int32} (d : DAt M pc .iushr 1 q) (h : Runs C M k n q P (.int ((x.toUInt32 >>> (y &&& 31).toUInt32).toInt32) :: S) G Q) : Runs C M k n pc P (.int y :: .int x :: S) G Q :=
  Runs.stk d (fun p e s m args below meth c T locs L hx hd hP X t r => XS.iushr (g := mkF m pc L (.int y :: .int x :: S)) X.here hx rfl hd rfl r) h
theorem Runs.lshl {x : Int64} {y : Int32} (d : DAt M pc .lshl 1 q) (h : Runs C M k n q P (.long (x <<< (y &&& 0x3f).toInt64) :: S) G Q) : Runs C M k n pc P (.int y :: .long x :: S) G Q :=
  Runs.stk d (fun p e s m args below meth c T locs L hx hd hP X t r => XS.lshl (g := mkF m pc L (.int y :: .long x :: S)) X.here hx rfl hd rfl r) h
theorem Runs.lshr {x : Int64} {y : Int32} (d : DAt M pc .lshr 1 q) (h : Runs C M k n q P (.long (x >>> (y &&& 0x3f).toInt64) :: S) G Q) : Runs C M k n pc P (.int y :: .long x :: S) G Q :=
  Runs.stk d (fun p e s m args below meth c T locs L hx hd hP X t r => XS.lshr (g := mkF m pc L (.int y :: .long x :: S)) X.here hx rfl hd rfl r) h
theorem Runs.lushr {x : Int64} {y : Int32} (d : DAt M pc .lushr 1 q) (h : Runs C M k n q P (.long ((x.toUInt64 >>> (y &&& 0x3f).toInt64.toUInt64).toInt64) :: S) G Q) : Runs C M k n pc P (.int y :: .long x :: S) G Q :=
  Runs.stk d (fun p e s m args below meth c T locs L hx hd hP X t r => XS.lushr (g := mkF m pc L (.int y :: .long x :: S)) X.here hx rfl hd rfl r) h
theorem Runs.ineg {x : Int32} (d : DAt M pc .ineg 1 q) (h : Runs C M k n q P (.int (-x) :: S) G Q) : Runs C M k n pc P (.int x :: S) G Q :=
  Runs.stk d (fun p e s m args below meth c T locs L hx hd hP X t r => XS.ineg (g := mkF m pc L (.int x :: S)) X.here hx rfl hd rfl r) h
theorem Runs.lneg {x : Int64} (d : DAt M pc .lneg 1 q) (h : Runs C M k n q P (.long (-x) :: S) G Q) : Runs C M k n pc P (.long x :: S) G Q :=
  Runs.stk d (fun p e s m args below meth c T locs L hx hd hP X t r => XS.lneg (g := mkF m pc L (.long x :: S)) X.here hx rfl hd rfl r) h
theorem Runs.i2l {x : Int32} (d : DAt M pc .i2l 1 q) (h : Runs C M k n q P (.long x.toInt64 :: S) G Q) : Runs C M k n pc P (.int x :: S) G Q :=
  Runs.stk d (fun p e s m args below meth c T locs L hx hd hP X t r => XS.i2l (g := mkF m pc L (.int x :: S)) X.here hx rfl hd rfl r) h
theorem Runs.l2i {x : Int64} (d : DAt M pc .l2i 1 q) (h : Runs C M k n q P (.int x.toInt32 :: S) G Q) : Runs C M k n pc P (.long x :: S) G Q :=
  Runs.stk d (fun p e s m args below meth c T locs L hx hd hP X t r => XS.l2i (g := mkF m pc L (.long x :: S)) X.here hx rfl hd rfl r) h
theorem Runs.lcmp {x y : Int64} (d : DAt M pc .lcmp 1 q) (h : Runs C M k n q P (.int (lcmpW x y) :: S) G Q) : Runs C M k n pc P (.long y :: .long x :: S) G Q :=
  Runs.stk d (fun p e s m args below meth c T locs L hx hd hP X t r => XS.lcmp (g := mkF m pc L (.long y :: .long x :: S)) X.here hx rfl hd rfl r) h
theorem Runs.idiv {x y : Int32} (d : DAt M pc .idiv 1 q) (hy : y ≠ 0) (h : Runs C M k n q P (.int (x / y) :: S) G Q) : Runs C M k n pc P (.int y :: .int x :: S) G Q :=
  Runs.stk d (fun p e s m args below meth c T locs L hx hd hP X t r => XS.idiv (g := mkF m pc L (.int y :: .int x :: S)) X.here hx rfl hd rfl hy r) h
theorem Runs.irem {x y : Int32} (d : DAt M pc .irem 1 q) (hy : y ≠ 0) (h : Runs C M k n q P (.int (x % y) :: S) G Q) : Runs C M k n pc P (.int y :: .int x :: S) G Q :=
  Runs.stk d (fun p e s m args below meth c T locs L hx hd hP X t r => iremM (g := mkF m pc L (.int y :: .int x :: S)) X hx rfl hd rfl hy r) h
theorem Runs.dup {x : Value} (d : DAt M pc .dup 1 q) (hc : x.category = 1) (h : Runs C M k n q P (x :: x :: S) G Q) : Runs C M k n pc P (x :: S) G Q :=
  Runs.stk d (fun p e s m args below meth c T locs L hx hd hP X t r => XS.dup (g := mkF m pc L (x :: S)) X.here hx rfl hd rfl hc r) h
theorem Runs.dup2 {x y : Value} (d : DAt M pc .dup2 1 q) (hc : x.category = 1) (hc' : y.category = 1) (h : Runs C M k n q P (x :: y :: x :: y :: S) G Q) : Runs C M k n pc P (x :: y :: S) G Q :=
  Runs.stk d (fun p e s m args below meth c T locs L hx hd hP X t r => Jvm.Free.XT.dup2 (g := mkF m pc L (x :: y :: S)) X.here hx rfl hd rfl hc hc' r) h
theorem Runs.pop {x : Value} (d : DAt M pc .pop 1 q) (hc : x.category = 1) (h : Runs C M k n q P S G Q) : Runs C M k n pc P (x :: S) G Q :=
  Runs.stk d (fun p e s m args below meth c T locs L hx hd hP X t r => XS.pop (g := mkF m pc L (x :: S)) X.here hx rfl hd rfl hc r) h
theorem Runs.goto {o : Int} {pc' : Nat} (d : DAt M pc (.goto o) 3 q) (ho : 0 ≤ (pc : Int) + o ∧ ((pc : Int) + o).toNat = pc') (h : Runs C M k n pc' P S G Q) : Runs C M k n pc P S G Q :=
  Runs.pure d (fun p e s m args below meth c T locs L hw hx hown hZ hd hP hsz _ X => ⟨L, hP, hsz, fun t r => XS.goto (g := mkF m pc L S) X.here hx rfl (pc0 := pc) rfl hd ho.1 ho.2 r⟩) h
theorem Runs.ifY {cd : ClassFile.Cond} {x : Int32} {o : Int} {pc' : Nat} (d : DAt M pc (.ifCond cd o) 3 q) (hc : if_icmp.holds cd x 0 = true) (ho : 0 ≤ (pc : Int) + o ∧ ((pc : Int) + o).toNat = pc') (h : Runs C M k n pc' P S G Q) : Runs C M k n pc P (.int x :: S) G Q :=
  Runs.pure d (fun p e s m args below meth c T locs L hw hx hown hZ hd hP hsz _ X => ⟨L, hP, hsz, fun t r => XS.ifYes (g := mkF m pc L (.int x :: S)) X.here hx rfl (pc0 := pc) rfl hd rfl ((if0 _ _).trans hc) ho.1 ho.2 r⟩) h
theorem Runs.ifN {cd : ClassFile.Cond} {x : Int32} {o : Int} (d : DAt M pc (.ifCond cd o) 3 q) (hc : if_icmp.holds cd x 0 = false) (h : Runs C M k n q P S G Q) : Runs C M k n pc P (.int x :: S) G Q :=
  Runs.stk d (fun p e s m args below meth c T locs L hx hd hP X t r => XS.ifNo (g := mkF m pc L (.int x :: S)) X.here hx rfl hd rfl ((if0 _ _).trans hc) r) h
theorem Runs.icY {cd : ClassFile.Cond} {x y : Int32} {o : Int} {pc' : Nat} (d : DAt M pc (.if_icmp cd o) 3 q) (hc : if_icmp.holds cd x y = true) (ho : 0 ≤ (pc : Int) + o ∧ ((pc : Int) + o).toNat = pc') (h : Runs C M k n pc' P S G Q) : Runs C M k n pc P (.int y :: .int x :: S) G Q :=
  Runs.pure d (fun p e s m args below meth c T locs L hw hx hown hZ hd hP hsz _ X => ⟨L, hP, hsz, fun t r => XS.icmpYes (g := mkF m pc L (.int y :: .int x :: S)) X.here hx rfl (pc0 := pc) rfl hd rfl hc ho.1 ho.2 r⟩) h
theorem Runs.icN {cd : ClassFile.Cond} {x y : Int32} {o : Int} (d : DAt M pc (.if_icmp cd o) 3 q) (hc : if_icmp.holds cd x y = false) (h : Runs C M k n q P S G Q) : Runs C M k n pc P (.int y :: .int x :: S) G Q :=
  Runs.stk d (fun p e s m args below meth c T locs L hx hd hP X t r => XS.icmpNo (g := mkF m pc L (.int y :: .int x :: S)) X.here hx rfl hd rfl hc r) h
theorem Runs.tswI {dflt low high : Int} {offs : Array Int} {len : Nat} {o : Int} {pc' : Nat} {i : Int32} (d : DAt M pc (.tableswitch dflt low high offs) len q) (hin : ¬ (i.toInt < low ∨ i.toInt > high)) (hoff : offs[(i.toInt - low).toNat]? = some o) (ho : 0 ≤ (pc : Int) + o ∧ ((pc : Int) + o).toNat = pc') (h : Runs C M k n pc' P S G Q) : Runs C M k n pc P (.int i :: S) G Q :=
  Runs.pure d (fun p e s m args below meth c T locs L hw hx hown hZ hd hP hsz _ X => ⟨L, hP, hsz, fun t r => XS.tswIn (g := mkF m pc L (.int i :: S)) X.here hx rfl (pc0 := pc) rfl hd rfl hin hoff ho.1 ho.2 r⟩) h
theorem Runs.tswO {dflt low high : Int} {offs : Array Int} {len : Nat} {pc' : Nat} {i : Int32} (d : DAt M pc (.tableswitch dflt low high offs) len q) (hout : i.toInt < low ∨ i.toInt > high) (ho : 0 ≤ (pc : Int) + dflt ∧ ((pc : Int) + dflt).toNat = pc') (h : Runs C M k n pc' P S G Q) : Runs C M k n pc P (.int i :: S) G Q :=
  Runs.pure d (fun p e s m args below meth c T locs L hw hx hown hZ hd hP hsz _ X => ⟨L, hP, hsz, fun t r => XS.tswOut (g := mkF m pc L (.int i :: S)) X.here hx rfl (pc0 := pc) rfl hd rfl hout ho.1 ho.2 r⟩) h
theorem Runs.istoreN {j : Fin 4} {x : Int32} (d : DAt M pc (.istore_n j) 1 q) (hi : j.val < M.2.2.1) (hP' : ps1 P j.val (.int x) = P') (h : Runs C M k n q P' S G Q) : Runs C M k n pc P (.int x :: S) G Q := by
  have hq := d.2
  subst hq hP'
  refine Runs.pure d (fun p e s m args below meth c T locs L hw hx hown hZ hd hP hsz _ X => ?_) h
  obtain ⟨L', e1, e2, e3⟩ := hP.store1 (i := j.val) (v := .int x) (by omega) rfl
  exact ⟨L', e3, e2.trans hsz, fun t r => XS.istoreN (g := mkF m pc L (.int x :: S)) X.here hx rfl hd rfl e1 r⟩
theorem Runs.istore {j : Nat} {x : Int32} (d : DAt M pc (.istore j) 2 q) (hi : j < M.2.2.1) (hP' : ps1 P j (.int x) = P') (h : Runs C M k n q P' S G Q) : Runs C M k n pc P (.int x :: S) G Q := by
  have hq := d.2
  subst hq hP'
  refine Runs.pure d (fun p e s m args below meth c T locs L hw hx hown hZ hd hP hsz _ X => ?_) h
  obtain ⟨L', e1, e2, e3⟩ := hP.store1 (i := j) (v := .int x) (by omega) rfl
  exact ⟨L', e3, e2.trans hsz, fun t r => XS.istore (g := mkF m pc L (.int x :: S)) X.here hx rfl hd rfl e1 r⟩
theorem Runs.astoreN {j : Fin 4} {x : Nat} (d : DAt M pc (.astore_n j) 1 q) (hi : j.val < M.2.2.1) (hP' : ps1 P j.val (.ref x) = P') (h : Runs C M k n q P' S G Q) : Runs C M k n pc P (.ref x :: S) G Q := by
  have hq := d.2
  subst hq hP'
  refine Runs.pure d (fun p e s m args below meth c T locs L hw hx hown hZ hd hP hsz _ X => ?_) h
  obtain ⟨L', e1, e2, e3⟩ := hP.store1 (i := j.val) (v := .ref x) (by omega) rfl
  exact ⟨L', e3, e2.trans hsz, fun t r => XS.astoreN (g := mkF m pc L (.ref x :: S)) X.here hx rfl hd rfl rfl e1 r⟩
theorem Runs.astore {j : Nat} {x : Nat} (d : DAt M pc (.astore j) 2 q) (hi : j < M.2.2.1) (hP' : ps1 P j (.ref x) = P') (h : Runs C M k n q P' S G Q) : Runs C M k n pc P (.ref x :: S) G Q := by
  have hq := d.2
  subst hq hP'
  refine Runs.pure d (fun p e s m args below meth c T locs L hw hx hown hZ hd hP hsz _ X => ?_) h
  obtain ⟨L', e1, e2, e3⟩ := hP.store1 (i := j) (v := .ref x) (by omega) rfl
  exact ⟨L', e3, e2.trans hsz, fun t r => XS.astore (g := mkF m pc L (.ref x :: S)) X.here hx rfl hd rfl rfl e1 r⟩
theorem Runs.lstoreN {j : Fin 4} {x : Int64} (d : DAt M pc (.lstore_n j) 1 q) (hi : j.val + 1 < M.2.2.1) (hP' : ps2 P j.val (.long x) = P') (h : Runs C M k n q P' S G Q) : Runs C M k n pc P (.long x :: S) G Q := by
  have hq := d.2
  subst hq hP'
  refine Runs.pure d (fun p e s m args below meth c T locs L hw hx hown hZ hd hP hsz _ X => ?_) h
  obtain ⟨L', e1, e2, e3⟩ := hP.store2 (i := j.val) (v := .long x) (by omega) rfl
  exact ⟨L', e3, e2.trans hsz, fun t r => XS.lstoreN (g := mkF m pc L (.long x :: S)) X.here hx rfl hd rfl e1 r⟩
theorem Runs.lstore {j : Nat} {x : Int64} (d : DAt M pc (.lstore j) 2 q) (hi : j + 1 < M.2.2.1) (hP' : ps2 P j (.long x) = P') (h : Runs C M k n q P' S G Q) : Runs C M k n pc P (.long x :: S) G Q := by
  have hq := d.2
  subst hq hP'
  refine Runs.pure d (fun p e s m args below meth c T locs L hw hx hown hZ hd hP hsz _ X => ?_) h
  obtain ⟨L', e1, e2, e3⟩ := hP.store2 (i := j) (v := .long x) (by omega) rfl
  exact ⟨L', e3, e2.trans hsz, fun t r => XS.lstore (g := mkF m pc L (.long x :: S)) X.here hx rfl hd rfl e1 r⟩
theorem Runs.iinc {j : Nat} {cst : Int} {x v : Int32} (d : DAt M pc (.iinc j cst) 3 q) (hv : Int32.ofInt cst = v) (hl : pget P j = vi x) (hi : j < M.2.2.1) (hP' : ps1 P j (.int (x + v)) = P') (h : Runs C M k n q P' S G Q) : Runs C M k n pc P S G Q := by
  have hq := d.2
  subst hq hP' hv
  refine Runs.pure d (fun p e s m args below meth c T locs L hw hx hown hZ hd hP hsz _ X => ?_) h
  obtain ⟨L', e1, e2, e3⟩ := hP.store1 (i := j) (v := .int (x + Int32.ofInt cst)) (by omega) rfl
  exact ⟨L', e3, e2.trans hsz, fun t r => XS.iinc (g := mkF m pc L S) X.here hx rfl hd (hP.1 _ _ hl) e1 r⟩
/-- less is known of the locals -/
def psub : Pat → Pat → Prop
  | [], _ => True
  | none :: l, _ :: l' => psub l l'
  | some s :: l, y :: l' => y = some s ∧ psub l l'
  | none :: l, [] => psub l []
  | some _ :: _, [] => False
theorem psub_get : ∀ (P P' : Pat), psub P P' → ∀ i s, pget P i = some s → pget P' i = some s
  | [], _, _, i, s, h => by simp [pget] at h
  | none :: l, _ :: l', H, 0, s, h => by simp [pget] at h
  | none :: l, _ :: l', H, i + 1, s, h => psub_get l l' H i s h
  | some x :: l, y :: l', H, 0, s, h => by rw [show y = some x from H.1]; exact h
  | some x :: l, y :: l', H, i + 1, s, h => psub_get l l' H.2 i s h
  | none :: l, [], H, 0, s, h => by simp [pget] at h
  | none :: l, [], H, i + 1, s, h => by have := psub_get l [] H i s h; simp [pget] at this
  | some _ :: _, [], H, _, _, _ => H.elim
theorem Runs.weak (hP : psub P' P) (h : Runs C M k n pc P' S G Q) : Runs C M k n pc P S G Q := by
  intro hw p e s m args below meth c T locs L hx hby hml hret hnm hown hZ hf
  exact h hw p e s m args below meth c T locs L hx hby hml hret hnm hown hZ ⟨fun i s hi => hf.1 i s (psub_get _ _ hP i s hi), hf.2⟩
theorem Runs.swap {top : Nat} {x y : Nat × Nat × Rec} {H : List (Nat × Nat × Rec)} (h : Runs C M k n pc P S (top, y :: x :: H) Q) : Runs C M k n pc P S (top, x :: y :: H) Q := by
  intro hw p e s m args below meth c T locs L hx hby hml hret hnm hown hZ hf hsz X hR hF
  exact h hw p e s m args below meth c T locs L hx hby hml hret hnm hown hZ hf hsz X hR.swap hF
end Rules
/- the steps that touch the heap -/
section Made
variable {p : Program} {l : Launch} {e : Env} {R : Room} {s : State} {m : MethodId} {args : Array Value} {below : List Frame} {meth : Method} {c : Code} {T : State} {locs : List Loc} {cells slots : Nat} {Z : State} {a0 : Array Value}
theorem ext_push (h : Heap) (x : Cell) : Ext h (h.push x) := ⟨by simp, fun a c q => by rw [Array.getElem?_push_lt (Array.getElem?_eq_some_iff.mp q).1]; exact (Array.getElem?_eq_getElem _).symm.trans q⟩
/-- 'new', with the heap's size behind it -/
theorem new1 (X : Stand p l e R s m args below meth c T locs cells slots) (hx : p.tables.exec = Jvm.exec) (hZ : Z.Warmed39 s.vm) {own C : String} {index n : Nat} (hown : s.vm.findClass own = some m.cls) (w : (Jvm.Cond.classLink own index C).before a0 Z = true) (wi : (Jvm.Cond.instantiable C n).before a0 Z = true) (wz : (Jvm.Cond.initialized C).before a0 Z = true)
    {g : JFrame} (hg : g.method = m) (hd : decode c.code g.pc = .ok (.new index, 3)) (hc : cells + 1 ≤ R.cells) (hl : slots + n ≤ R.slots) :
    ∃ T', Stand p l e R s m args below meth c T' locs (cells + 1) (slots + n) ∧ T'.heap.size = T.heap.size + 1 ∧ Ext T.heap T'.heap ∧ Exa Z T'.heap T.heap.size C ∧ (∀ {O nm d : String} {ty : FieldType}, Laid Z a0 C O nm d → parseFieldDescriptor d = some ty → Fld Z T'.heap T.heap.size O nm d (defaultValue ty)) ∧
      ∀ target, Steps p.tables e below (T'.setTop { g with pc := g.pc + 3, stack := .ref T.heap.size :: g.stack }) target → Steps p.tables e below (T.setTop g) target := by
  obtain ⟨vm', cC, kC, h1, h2, h3, h4, X', st⟩ := X.newCold hx hown (mv hZ w) (mv hZ wi) (mv hZ wz) hg hd hc hl
  rw [hZ.alike.findClass] at h1
  obtain ⟨kZ, z1, -⟩ := Vm.findClass_spec h1
  obtain ⟨k', z2, z3⟩ := hZ.alike.2.2 _ _ z1
  have ek : kC.instanceTypes = kZ.instanceTypes := by rw [Option.some.inj (h2.symm.trans z2), z3]
  obtain ⟨cell, hcell⟩ : ∃ cell : Cell, cell = { cls := cC, slots := kC.instanceTypes.map defaultValue, vm := .none } := ⟨_, rfl⟩
  rw [← hcell] at X' st
  have hp : ((T.setVm vm').pushCell cell).heap = T.heap.push cell := rfl
  have at' : (T.heap.push cell)[T.heap.size]? = some cell := by simp
  refine ⟨_, X', by rw [hp]; simp, by rw [hp]; exact ext_push _ _, ?_, fun {O nm d ty} L ht => ?_, st⟩
  · rw [hp]; exact ⟨cell, kZ, at', by rw [hcell]; exact h1, by rw [hcell]; exact z1, by rw [hcell]; rfl, fun _ => by rw [hcell]; simp [ek]⟩
  · rw [hp]
    obtain ⟨c1, k1, cf, kf, i, f, a1, a2, a3, a4, a5, a6, -⟩ := L.spec
    cases h1.symm.trans a1
    cases z1.symm.trans a2
    refine ⟨cell, cf, kf, i, f, at', a3, a4, by rw [hcell]; simp, by rw [hcell]; rfl, by rw [hcell]; exact a5, ?_⟩
    rw [hcell]; simp [ek, a6, (State.fieldFound?_type a3 ht).2]
theorem newArr1 (X : Stand p l e R s m args below meth c T locs cells slots) (hx : p.tables.exec = Jvm.exec) (hZ : Z.Warmed39 s.vm) {aty : ArrayType} (w : (Jvm.Cond.arrayClass (newarray.typeOf aty)).before a0 Z = true) {g : JFrame} (hg : g.method = m) (hd : decode c.code g.pc = .ok (.newarray aty, 2)) {n : Int32} {rest : List Value} (hs : g.stack = .int n :: rest)
    (hn : ¬ n < 0) (hb : n.toNatClampNeg * 8 ≤ 536870912) (hc : cells + 1 ≤ R.cells) (hl : slots + n.toNatClampNeg ≤ R.slots) :
    ∃ T' cA, Stand p l e R s m args below meth c T' locs (cells + 1) (slots + n.toNatClampNeg) ∧ T'.heap.size = T.heap.size + 1 ∧ Ext T.heap T'.heap ∧ Arr Z T'.heap T.heap.size (newA cA (newarray.typeOf aty) n) (newarray.typeOf aty) ∧
      ∀ target, Steps p.tables e below (T'.setTop { g with pc := g.pc + 2, stack := .ref T.heap.size :: rest }) target → Steps p.tables e below (T.setTop g) target := by
  have hcb : componentBytes (newarray.typeOf aty) ≤ 8 := by cases aty <;> decide
  obtain ⟨cA, kA, comp, h1, h2, h3, X', st⟩ := X.newarrayPrim hx (mvA hZ w) hg hd hs hn (Nat.le_trans (Nat.mul_le_mul_left _ hcb) hb) hc hl
  rw [hZ.alike.findClass] at h1
  obtain ⟨kZ, z1, -⟩ := Vm.findClass_spec h1
  obtain ⟨k', z2, z3⟩ := hZ.alike.2.2 _ _ z1
  have ek : kA.kind = kZ.kind := by rw [Option.some.inj (h2.symm.trans z2), z3]
  have hp : (T.pushCell (newA cA (newarray.typeOf aty) n)).heap = T.heap.push (newA cA (newarray.typeOf aty) n) := rfl
  refine ⟨T.pushCell (newA cA (newarray.typeOf aty) n), cA, X', by rw [hp]; simp, by rw [hp]; exact ext_push _ _, ?_, st⟩
  rw [hp]
  exact ⟨by simp, ⟨by simp [newA], kZ, z1, comp, by rw [← ek]; exact h3⟩, by simp [newA]⟩
end Made
section Heap
variable {C : Ctx} {M : Bdy} {k n pc q : Nat} {P P' : Pat} {S S' : List Value} {G : AH} {Q : Option Value → AH → Prop} {top : Nat} {a : Nat} {qq j idx : Nat} {ob : Rec} {H : List (Nat × Nat × Rec)} {nm ds : String}
theorem Runs.getI (d : DAt M pc (.getfield idx) 3 q) (w : Jvm.Cond.fieldLink M.1.cls idx K.1 nm ds ∈ tables_1) (hk : K.2.1[j]? = some (nm, ds)) (h : Runs C M k n q P (.int (gI ob j) :: S) (top, (a, qq, ob) :: H) Q) : Runs C M k n pc P (.ref a :: S) (top, (a, qq, ob) :: H) Q := by
  intro hw p e s m args below meth c T locs L hx hby hml hret hnm hown hZ hf hsz X hR hF
  have hq := d.2
  subst hq
  obtain ⟨T1, X1, e1, st1⟩ := getF X hx hZ hown (host := "") (Or.inl (hw _ w)) Via.refl rfl (hR.objs.2.2.2.1 j _ hk) (g := mkF m pc L (.ref a :: S)) rfl rfl (hb hby d.1)
  obtain ⟨T', locs', k', n', r, G', g1, g2, g3, g4, g5, g6, g7, g8⟩ := h hw p e s m args below meth c T1 locs L hx hby hml hret hnm hown hZ hf hsz X1 (by rw [e1]; exact hR) hF
  exact ⟨T', locs', k', n', r, G', g1, g2, g3, g4, g5, g6, g7, fun fs hr => st1 _ (g8 fs hr)⟩
theorem Runs.getA {ty : FieldType} {len : Int32} (d : DAt M pc (.getfield idx) 3 q) (hk : K.2.2[j]? = some (nm, ty, len)) (w : Jvm.Cond.fieldLink M.1.cls idx K.1 nm (aD ty) ∈ tables_1) (hq : j < qq) (h : Runs C M k n q P (.ref (a + 1 + j) :: S) (top, (a, qq, ob) :: H) Q) : Runs C M k n pc P (.ref a :: S) (top, (a, qq, ob) :: H) Q := by
  intro hw p e s m args below meth c T locs L hx hby hml hret hnm hown hZ hf hsz X hR hF
  have hqq := d.2
  subst hqq
  obtain ⟨T1, X1, e1, st1⟩ := getF X hx hZ hown (host := "") (Or.inl (hw _ w)) Via.refl rfl (hR.objs.2.2.2.2.1 j _ hk hq).1 (g := mkF m pc L (.ref a :: S)) rfl rfl (hb hby d.1)
  obtain ⟨T', locs', k', n', r, G', g1, g2, g3, g4, g5, g6, g7, g8⟩ := h hw p e s m args below meth c T1 locs L hx hby hml hret hnm hown hZ hf hsz X1 (by rw [e1]; exact hR) hF
  exact ⟨T', locs', k', n', r, G', g1, g2, g3, g4, g5, g6, g7, fun fs hr => st1 _ (g8 fs hr)⟩
theorem lw_of {Z : State} {a0 : Array Value} {meth : Method} (hw : ∀ d ∈ tables_1, d.before a0 Z = true) {C O n d own : String} (h : Jvm.Cond.lays C O n d ∈ tables_1 ∨ Jvm.Cond.laysFinal C O n d ∈ tables_1) (hc : Jvm.Cond.lays C O n d ∈ tables_1 ∨ (own = O ∧ meth.name = "<init>")) : (Jvm.Cond.lays C O n d).before a0 Z = true ∨ ((Jvm.Cond.laysFinal C O n d).before a0 Z = true ∧ own = O ∧ meth.name = "<init>") := by
  rcases hc with hc | hc
  · exact Or.inl (hw _ hc)
  · exact h.imp (hw _) (fun u => ⟨hw _ u, hc⟩)
/-- a field that may be written here: not final, or in a constructor of its class -/
def Mine (M : Bdy) (nm ds : String) : Prop := Jvm.Cond.lays K.1 K.1 nm ds ∈ tables_1 ∨ (M.1.cls = K.1 ∧ M.1.name = "<init>")
theorem Runs.putI {x : Int32} (d : DAt M pc (.putfield idx) 3 q) (w : Jvm.Cond.fieldLink M.1.cls idx K.1 nm "I" ∈ tables_1) (hk : K.2.1[j]? = some (nm, "I")) (hm : Mine M nm "I") (h : Runs C M k n q P S (top, (a, qq, sI ob j x) :: H) Q) : Runs C M k n pc P (.int x :: .ref a :: S) (top, (a, qq, ob) :: H) Q := by
  intro hw p e s m args below meth c T locs L hx hby hml hret hnm hown hZ hf hsz X hR hF
  have hqq := d.2
  subst hqq
  obtain ⟨T1, h1, X1, e1, W1, st1⟩ := putF X hx hZ hown (host := "") (Or.inl (hw _ w)) Via.refl rfl (hR.objs.2.2.2.1 j _ hk) hR.objs.2.2.1 (lw_of hw ((All.mem kS (List.mem_of_getElem? hk)).1) (hm.imp id (fun u => ⟨u.1, hnm.trans u.2⟩))) (hw _ kI) (ty := .int) (by decide) rfl rfl (g := mkF m pc L (.int x :: .ref a :: S)) rfl rfl (hb hby d.1)
  obtain ⟨T', locs', k', n', r, G', g1, g2, g3, g4, g5, g6, g7, g8⟩ := h hw p e s m args below meth c T1 _ L hx hby hml hret hnm hown hZ hf hsz X1 (by rw [e1]; exact hR.putI hw hk W1) (Fr.snoc X1 hF hR.objs.1)
  exact ⟨T', locs', k', n', r, G', g1, g2, g3, g4, g5, g6, g7, fun fs hr => st1 _ (g8 fs hr)⟩
theorem Runs.putZ {x y : Int32} (d : DAt M pc (.putfield idx) 3 q) (w : Jvm.Cond.fieldLink M.1.cls idx K.1 nm "Z" ∈ tables_1) (hk : K.2.1[j]? = some (nm, "Z")) (hm : Mine M nm "Z") (hy : nar .boolean x = y) (h : Runs C M k n q P S (top, (a, qq, sI ob j y) :: H) Q) : Runs C M k n pc P (.int x :: .ref a :: S) (top, (a, qq, ob) :: H) Q := by
  subst hy
  intro hw p e s m args below meth c T locs L hx hby hml hret hnm hown hZ hf hsz X hR hF
  have hqq := d.2
  subst hqq
  obtain ⟨T1, h1, X1, e1, W1, st1⟩ := putFN X hx hZ hown (hw _ w) Via.refl rfl (hR.objs.2.2.2.1 j _ hk) hR.objs.2.2.1 (lw_of hw ((All.mem kS (List.mem_of_getElem? hk)).1) (hm.imp id (fun u => ⟨u.1, hnm.trans u.2⟩))) (hw _ kI) (ty := .boolean) (v' := .int (nar .boolean x)) (by decide) rfl (fits_nar_bool _) (g := mkF m pc L (.int x :: .ref a :: S)) rfl rfl (hb hby d.1)
  obtain ⟨T', locs', k', n', r, G', g1, g2, g3, g4, g5, g6, g7, g8⟩ := h hw p e s m args below meth c T1 _ L hx hby hml hret hnm hown hZ hf hsz X1 (by rw [e1]; exact hR.putI hw hk W1) (Fr.snoc X1 hF hR.objs.1)
  exact ⟨T', locs', k', n', r, G', g1, g2, g3, g4, g5, g6, g7, fun fs hr => st1 _ (g8 fs hr)⟩
theorem Runs.ialoadA {i len : Int32} (d : DAt M pc .iaload 1 q) (hk : K.2.2[j]? = some (nm, .int, len)) (hq : j < qq) (hi : ¬ i < 0 ∧ i < len) (h : Runs C M k n q P (.int (gA ob j i) :: S) (top, (a, qq, ob) :: H) Q) : Runs C M k n pc P (.int i :: .ref (a + 1 + j) :: S) (top, (a, qq, ob) :: H) Q := by
  have hqq := d.2
  subst hqq
  refine Runs.pure d (fun p e s m args below meth c T locs L hw hx hown hZ hd hP hsz hR X => ⟨L, hP, hsz, fun t r => ?_⟩) h
  obtain ⟨cl, A, Sz, V⟩ := (hR.objs.2.2.2.2.1 j _ hk hq).2
  exact X.iaload hx (j := i) (v := .int (gA ob j i)) A.1 (State.isArrayOf_alike hZ.alike A.2.1) A.2.2 (inb_of Sz hi) (V i hi.1 hi.2) (g := mkF m pc L (.int i :: .ref (a + 1 + j) :: S)) rfl rfl hd _ r
theorem Runs.baloadA {i len : Int32} (d : DAt M pc .baload 1 q) (hk : K.2.2[j]? = some (nm, .boolean, len)) (hq : j < qq) (hi : ¬ i < 0 ∧ i < len) (h : Runs C M k n q P (.int (gA ob j i) :: S) (top, (a, qq, ob) :: H) Q) : Runs C M k n pc P (.int i :: .ref (a + 1 + j) :: S) (top, (a, qq, ob) :: H) Q := by
  have hqq := d.2
  subst hqq
  refine Runs.pure d (fun p e s m args below meth c T locs L hw hx hown hZ hd hP hsz hR X => ⟨L, hP, hsz, fun t r => ?_⟩) h
  obtain ⟨cl, A, Sz, V⟩ := (hR.objs.2.2.2.2.1 j _ hk hq).2
  exact X.baloadBooleans hx (j := i) (v := .int (gA ob j i)) A.1 (State.isArrayOf_alike hZ.alike A.2.1) A.2.2 (inb_of Sz hi) (V i hi.1 hi.2) (g := mkF m pc L (.int i :: .ref (a + 1 + j) :: S)) rfl rfl hd _ r
theorem Runs.laloadA {i len : Int32} (d : DAt M pc .laload 1 q) (hk : K.2.2[j]? = some (nm, .long, len)) (hq : j < qq) (hi : ¬ i < 0 ∧ i < len) (h : Runs C M k n q P (.long (gJ ob j i) :: S) (top, (a, qq, ob) :: H) Q) : Runs C M k n pc P (.int i :: .ref (a + 1 + j) :: S) (top, (a, qq, ob) :: H) Q := by
  have hqq := d.2
  subst hqq
  refine Runs.pure d (fun p e s m args below meth c T locs L hw hx hown hZ hd hP hsz hR X => ⟨L, hP, hsz, fun t r => ?_⟩) h
  obtain ⟨cl, A, Sz, V⟩ := (hR.objs.2.2.2.2.1 j _ hk hq).2
  exact X.laload hx (j := i) (v := .long (gJ ob j i)) A.1 (State.isArrayOf_alike hZ.alike A.2.1) A.2.2 (inb_of Sz hi) (V i hi.1 hi.2) (g := mkF m pc L (.int i :: .ref (a + 1 + j) :: S)) rfl rfl hd _ r
theorem Runs.iastoreA {i x len : Int32} (d : DAt M pc .iastore 1 q) (hk : K.2.2[j]? = some (nm, .int, len)) (hq : j < qq) (hi : ¬ i < 0 ∧ i < len) (h : Runs C M k n q P S (top, (a, qq, sA ob j i x) :: H) Q) : Runs C M k n pc P (.int x :: .int i :: .ref (a + 1 + j) :: S) (top, (a, qq, ob) :: H) Q := by
  intro hw p e s m args below meth c T locs L hx hby hml hret hnm hown hZ hf hsz X hR hF
  have hqq := d.2
  subst hqq
  obtain ⟨cl, A, Sz, V⟩ := (hR.objs.2.2.2.2.1 j _ hk hq).2
  obtain ⟨T1, h1, X1, e1, W1, st1⟩ := stI X hx hZ rfl A (j := i) (x := x) (inb_of Sz hi) (g := mkF m pc L (.int x :: .int i :: .ref (a + 1 + j) :: S)) rfl rfl (hb hby d.1)
  obtain ⟨T', locs', k', n', r, G', g1, g2, g3, g4, g5, g6, g7, g8⟩ := h hw p e s m args below meth c T1 _ L hx hby hml hret hnm hown hZ hf hsz X1 (by rw [e1]; exact hR.putA hk hq (by simp) hi W1) (Fr.snoc X1 hF (by have := hR.objs.1; omega))
  exact ⟨T', locs', k', n', r, G', g1, g2, g3, g4, g5, g6, g7, fun fs hr => st1 _ (g8 fs hr)⟩
theorem Runs.bastoreA {i x len : Int32} (d : DAt M pc .bastore 1 q) (hk : K.2.2[j]? = some (nm, .boolean, len)) (hq : j < qq) (hi : ¬ i < 0 ∧ i < len) {y : Int32} (hy : nar .boolean x = y) (h : Runs C M k n q P S (top, (a, qq, sA ob j i y) :: H) Q) : Runs C M k n pc P (.int x :: .int i :: .ref (a + 1 + j) :: S) (top, (a, qq, ob) :: H) Q := by
  subst hy
  intro hw p e s m args below meth c T locs L hx hby hml hret hnm hown hZ hf hsz X hR hF
  have hqq := d.2
  subst hqq
  obtain ⟨cl, A, Sz, V⟩ := (hR.objs.2.2.2.2.1 j _ hk hq).2
  obtain ⟨T1, h1, X1, e1, W1, st1⟩ := stZ X hx hZ rfl A (j := i) (x := x) (inb_of Sz hi) (g := mkF m pc L (.int x :: .int i :: .ref (a + 1 + j) :: S)) rfl rfl (hb hby d.1)
  obtain ⟨T', locs', k', n', r, G', g1, g2, g3, g4, g5, g6, g7, g8⟩ := h hw p e s m args below meth c T1 _ L hx hby hml hret hnm hown hZ hf hsz X1 (by rw [e1]; exact hR.putA hk hq (by simp) hi W1) (Fr.snoc X1 hF (by have := hR.objs.1; omega))
  exact ⟨T', locs', k', n', r, G', g1, g2, g3, g4, g5, g6, g7, fun fs hr => st1 _ (g8 fs hr)⟩
theorem Runs.lastoreA {i len : Int32} {x : Int64} (d : DAt M pc .lastore 1 q) (hk : K.2.2[j]? = some (nm, .long, len)) (hq : j < qq) (hi : ¬ i < 0 ∧ i < len) (h : Runs C M k n q P S (top, (a, qq, sJ ob j i x) :: H) Q) : Runs C M k n pc P (.long x :: .int i :: .ref (a + 1 + j) :: S) (top, (a, qq, ob) :: H) Q := by
  intro hw p e s m args below meth c T locs L hx hby hml hret hnm hown hZ hf hsz X hR hF
  have hqq := d.2
  subst hqq
  obtain ⟨cl, A, Sz, V⟩ := (hR.objs.2.2.2.2.1 j _ hk hq).2
  obtain ⟨T1, h1, X1, e1, W1, st1⟩ := stJ X hx hZ rfl A (j := i) (x := x) (inb_of Sz hi) (g := mkF m pc L (.long x :: .int i :: .ref (a + 1 + j) :: S)) rfl rfl (hb hby d.1)
  obtain ⟨T', locs', k', n', r, G', g1, g2, g3, g4, g5, g6, g7, g8⟩ := h hw p e s m args below meth c T1 _ L hx hby hml hret hnm hown hZ hf hsz X1 (by rw [e1]; exact hR.putJ hk hq rfl hi W1) (Fr.snoc X1 hF (by have := hR.objs.1; omega))
  exact ⟨T', locs', k', n', r, G', g1, g2, g3, g4, g5, g6, g7, fun fs hr => st1 _ (g8 fs hr)⟩
/-- the script: an array that stood before the law began -/
def ScrF (C : Ctx) (sa : Nat) (z : Int32) (f : Int32 → Int32) : Prop := ∃ cl : Cell, Scr C.2.1 C.2.1.heap sa cl z ∧ f = atv cl
theorem Runs.lenS {sa : Nat} {z : Int32} {f : Int32 → Int32} (hs : ScrF C sa z f) (d : DAt M pc .arraylength 1 q) (h : Runs C M k n q P (.int z :: S) G Q) : Runs C M k n pc P (.ref sa :: S) G Q := by
  have hqq := d.2
  subst hqq
  refine Runs.pure d (fun p e s m args below meth c T locs L hw hx hown hZ hd hP hsz hR X => ⟨L, hP, hsz, fun t r => ?_⟩) h
  obtain ⟨cl, F, -⟩ := hs
  obtain ⟨A, Sz, N, V⟩ := F.ext hR.2.1.2
  exact X.arraylength hx A.1 (State.isArrayOf_alike hZ.alike A.2.1) (g := mkF m pc L (.ref sa :: S)) rfl rfl hd _ (by rw [len_of Sz N]; exact r)
theorem Runs.ialoadS {sa : Nat} {z i : Int32} {f : Int32 → Int32} (hs : ScrF C sa z f) (d : DAt M pc .iaload 1 q) (hi : ¬ i < 0 ∧ i < z) (h : Runs C M k n q P (.int (f i) :: S) G Q) : Runs C M k n pc P (.int i :: .ref sa :: S) G Q := by
  have hqq := d.2
  subst hqq
  refine Runs.pure d (fun p e s m args below meth c T locs L hw hx hown hZ hd hP hsz hR X => ⟨L, hP, hsz, fun t r => ?_⟩) h
  obtain ⟨cl, F, rfl⟩ := hs
  obtain ⟨A, Sz, N, V⟩ := F.ext hR.2.1.2
  exact X.iaload hx (j := i) (v := .int (atv cl i)) A.1 (State.isArrayOf_alike hZ.alike A.2.1) A.2.2 (inb_of Sz hi) (V i (inb_of Sz hi)) (g := mkF m pc L (.int i :: .ref sa :: S)) rfl rfl hd _ r
/- leaving -/
theorem Runs.retI {v : Int32} (d : DAt M pc .ireturn 1 q) (hret : M.2.2.2.1 = some .int) (hk : k ≤ M.2.2.2.2.cells ∧ n ≤ M.2.2.2.2.slots) (hQ : Q (some (.int v)) G) : Runs C M k n pc P (.int v :: S) G Q := by
  intro hw p e s m args below meth c T locs L hx hby hml hr0 hnm hown hZ hf hsz X hR hF
  exact ⟨T, locs, k, n, _, G, X, hk.1, hk.2, hR, hF, hQ, (fun u => by rw [hret] at u; cases u), fun fs hr => Jvm.RoadKit.retI X hx (hr0.trans hret) (hb hby d.1) hr⟩
theorem Runs.retZ {v : Int32} (d : DAt M pc .ireturn 1 q) (hret : M.2.2.2.1 = some .boolean) (hk : k ≤ M.2.2.2.2.cells ∧ n ≤ M.2.2.2.2.slots) {y : Int32} (hy : nar .boolean v = y) (hQ : Q (some (.int y)) G) : Runs C M k n pc P (.int v :: S) G Q := by
  subst hy
  intro hw p e s m args below meth c T locs L hx hby hml hr0 hnm hown hZ hf hsz X hR hF
  exact ⟨T, locs, k, n, _, G, X, hk.1, hk.2, hR, hF, hQ, (fun u => by rw [hret] at u; cases u), fun fs hr => retN X hx (t := .boolean) (hr0.trans hret) (by simp) (hb hby d.1) hr⟩
theorem Runs.retJ {v : Int64} (d : DAt M pc .lreturn 1 q) (hret : M.2.2.2.1 = some .long) (hk : k ≤ M.2.2.2.2.cells ∧ n ≤ M.2.2.2.2.slots) (hQ : Q (some (.long v)) G) : Runs C M k n pc P (.long v :: []) G Q := by
  intro hw p e s m args below meth c T locs L hx hby hml hr0 hnm hown hZ hf hsz X hR hF
  exact ⟨T, locs, k, n, _, G, X, hk.1, hk.2, hR, hF, hQ, (fun u => by rw [hret] at u; cases u), fun fs hr => X.lreturnOut hx (hr0.trans hret) (hb hby d.1) hr⟩
theorem Runs.retV (d : DAt M pc .return_ 1 q) (hret : M.2.2.2.1 = none) (hk : k ≤ M.2.2.2.2.cells ∧ n ≤ M.2.2.2.2.slots) (hQ : Q none G) : Runs C M k n pc P [] G Q := by
  intro hw p e s m args below meth c T locs L hx hby hml hr0 hnm hown hZ hf hsz X hR hF
  exact ⟨T, locs, k, n, _, G, X, hk.1, hk.2, hR, hF, hQ, (fun _ => rfl), fun fs hr => X.returnOut hx (hr0.trans hret) (hb hby d.1) hr⟩
/- a new object, and the arrays that its constructor makes -/
theorem Runs.newK (d : DAt M pc (.new idx) 3 q) (w : Jvm.Cond.classLink M.1.cls idx K.1 ∈ tables_1) (hc : k + 1 ≤ M.2.2.2.2.cells ∧ n + kN ≤ M.2.2.2.2.slots) {k' n' : Nat} (hk' : k + 1 = k') (hn' : n + kN = n') {H : List (Nat × Nat × Rec)} (hd : ∀ x ∈ H, x.1 + x.2.1 < top) (h : Runs C M k' n' q P (.ref top :: S) (top + 1, (top, 0, zrec) :: H) Q) : Runs C M k n pc P S (top, H) Q := by
  subst hk' hn'
  intro hw p e s m args below meth c T locs L hx hby hml hr0 hnm hown hZ hf hsz X hR hF
  have hqq := d.2
  subst hqq
  obtain ⟨T2, X2, s2, E2, A2, D2, st2⟩ := new1 X hx hZ hown (hw _ w) (hw _ kI) (hw _ kZ) (g := mkF m pc L S) rfl (hb hby d.1) hc.1 hc.2
  have hs : T.heap.size = top := hR.1
  rw [hs] at A2 D2 st2 s2
  have hR2 : Rep C.2.1 C.2.2.1 T2.heap (top + 1, (top, 0, zrec) :: H) := by
    refine ⟨s2, hR.2.1.ext E2, fun x hx' => ?_, ?_⟩
    · rcases List.mem_cons.mp hx' with rfl | hx'
      · refine ⟨?_, by simp, A2, fun k nd hk => ?_, fun k t hk hq => by simp at hq, fun k t hk hq => ?_⟩
        · have := hR.2.1.2.1; rw [hR.2.1.1] at this; simp only; omega
        · rcases (All.mem kS (List.mem_of_getElem? hk)).2 with e | e
          · have := D2 (laidS hw hk) (ty := .int) (by rw [e]; decide); exact this
          · have := D2 (laidS hw hk) (ty := .boolean) (by rw [e]; decide); exact this
        · have := D2 (laidA hw hk) (pfA hk); exact this
      · obtain ⟨p1, p2, p3⟩ := hR.2.2.1 x hx'
        exact ⟨p1, by simp only at p2 ⊢; omega, p3.ext E2⟩
    · exact List.pairwise_cons.mpr ⟨fun y hy => Or.inr (hd y hy), hR.2.2.2⟩
  obtain ⟨T', locs', k', n', r, G', g1, g2, g3, g4, g5, g6, g7, g8⟩ := h hw p e s m args below meth c T2 _ L hx hby hml hr0 hnm hown hZ hf hsz X2 hR2 hF
  exact ⟨T', locs', k', n', r, G', g1, g2, g3, g4, g5, g6, g7, fun fs hr => st2 _ (g8 fs hr)⟩
/-- newarray and the putfield behind it: the next array of an object that is being made -/
theorem Runs.newArr {aty : ArrayType} {ty : FieldType} {len : Int32} {q1 : Nat} (d : DAt M pc (.newarray aty) 2 q1) (d' : DAt M q1 (.putfield idx) 3 q) (hk : K.2.2[j]? = some (nm, ty, len)) (w : Jvm.Cond.fieldLink M.1.cls idx K.1 nm (aD ty) ∈ tables_1) (ht : newarray.typeOf aty = ty) (wa : Jvm.Cond.arrayClass ty ∈ tables_1) (hm : Mine M nm (aD ty))
    (htop : top = a + 1 + j) (hlen : ¬ len < 0 ∧ len.toNatClampNeg * 8 ≤ 536870912) (hc : k + 1 ≤ M.2.2.2.2.cells ∧ n + len.toNatClampNeg ≤ M.2.2.2.2.slots) (hz : (∀ i, ob.2.1 j i = 0) ∧ (∀ i, ob.2.2 j i = 0)) {j' top' k' n' : Nat} (hj' : j + 1 = j') (ht' : top + 1 = top') (hk' : k + 1 = k') (hn' : n + len.toNatClampNeg = n')
    (h : Runs C M k' n' q P S (top', (a, j', ob) :: H) Q) : Runs C M k n pc P (.int len :: .ref a :: S) (top, (a, j, ob) :: H) Q := by
  subst hj' ht' hk' hn'
  intro hw p e s m args below meth c T locs L hx hby hml hr0 hnm hown hZ hf hsz X hR hF
  have hqq := d.2
  have hqq' := d'.2
  subst hqq hqq' ht
  obtain ⟨T1, cA, X1, s1, E1, A1, st1⟩ := newArr1 X hx hZ (hw _ wa) (g := mkF m pc L (.int len :: .ref a :: S)) rfl (hb hby d.1) rfl hlen.1 hlen.2 hc.1 hc.2
  have hs : T.heap.size = top := hR.1
  rw [hs] at A1 st1 s1
  have O1 := hR.objs.2.2.ext E1
  obtain ⟨T2, h2, X2, e2, W2, st2⟩ := putF X1 hx hZ hown (host := "") (Or.inl (hw _ w)) Via.refl rfl (O1.2.2.2 j _ hk (Nat.le_refl _)) O1.1 (lw_of hw ((All.mem kA (List.mem_of_getElem? hk)).1) (hm.imp id (fun u => ⟨u.1, hnm.trans u.2⟩))) (hw _ kI) (ty := .array (newarray.typeOf aty)) (pfA hk) rfl rfl (g := mkF m (pc + 2) L (.ref top :: .ref a :: S)) rfl rfl (hb hby d'.1)
  have hts : (newarray.typeOf aty = .int ∨ newarray.typeOf aty = .boolean ∨ newarray.typeOf aty = .long) := (All.mem kA (List.mem_of_getElem? hk)).2.1
  have hA := arr_new A1 hts hz
  have hR2 : Rep C.2.1 C.2.2.1 T2.heap (top + 1, (a, j + 1, ob) :: H) := by rw [e2]; exact hR.addA hw E1 s1 htop hk hA W2
  obtain ⟨T', locs', k', n', r, G', g1, g2, g3, g4, g5, g6, g7, g8⟩ := h hw p e s m args below meth c T2 _ L hx hby hml hr0 hnm hown hZ hf hsz X2 hR2 (Fr.snoc X2 hF hR.objs.1)
  exact ⟨T', locs', k', n', r, G', g1, g2, g3, g4, g5, g6, g7, fun fs hr => st1 _ (st2 _ (g8 fs hr))⟩
theorem Runs.initO {W : Nat} (d : DAt M pc (.invokespecial idx) 3 q) (w1 : Jvm.Cond.methodLink M.1.cls idx Lib.objectInit ∈ tables_1) (w2 : Jvm.Cond.instanceMethod Lib.objectInit ∈ tables_1) (w3 : Jvm.Cond.code Lib.objectInit ⟨#[0xb1]⟩ 1 none ∈ tables_1) (hW : (S.map fun v => v.category).sum = W) (hc : 1 ≤ M.2.2.2.2.frames ∧ W + 12 ≤ M.2.2.2.2.locals) (h : Runs C M k n q P S G Q) : Runs C M k n pc P (.ref a :: S) G Q := by
  intro hw p e s m args below meth c T locs L hx hby hml hr0 hnm hown hZ hf hsz X hR hF
  have hqq := d.2
  subst hqq
  obtain ⟨T1, X1, e1, st1⟩ := Jvm.RoadKit.initO X hx hZ hown (hw _ w1) (hw _ w2) (hw _ w3) rfl (g := mkF m pc L (.ref a :: S)) rfl (by rw [hml]; exact hsz) rfl (hb hby d.1) hc.1 (W := W) (by show 2 * 0 + _ ≤ _; omega) hc.2
  obtain ⟨T', locs', k', n', r, G', g1, g2, g3, g4, g5, g6, g7, g8⟩ := h hw p e s m args below meth c T1 _ L hx hby hml hr0 hnm hown hZ hf hsz X1 (by rw [e1]; exact hR) hF
  exact ⟨T', locs', k', n', r, G', g1, g2, g3, g4, g5, g6, g7, fun fs hr => st1 _ (g8 fs hr)⟩
end Heap
/- a body's contract, and the calls that are paid by one -/
def Pays (C : Ctx) (N : Bdy) (as : List Value) (G : AH) (Q : Option Value → AH → Prop) : Prop :=
  Ok C → ∀ h0 : Heap, Rep C.2.1 C.2.2.1 h0 G → ∀ ws : List Jvm.Cond, MetFree C.1 N.1 (head1 (Jvm.Cond.code N.1 N.2.1 N.2.2.1 N.2.2.2.1 :: ws) N.2.2.2.2) (fun a U => a = as.toArray ∧ C.2.1.Warmed39 U.vm ∧ U.heap = h0) (fun _ _ _ _ _ => True)
    (fun _ U o U' => ∃ v L, o = .returned v ∧ (Fr C.2.2.1 L ∧ ∃ G', Rep C.2.1 C.2.2.1 U'.heap G' ∧ Q v G') ∧ FrameEnd U o U' L N.2.2.2.2.cells N.2.2.2.2.slots)
def lay : List Value → List Slot
  | [] => []
  | v :: l => if v.category = 2 then .val v :: .second :: lay l else .val v :: lay l
theorem lay_foldl (l : List Value) : ∀ acc : Array Slot, (l.foldl (fun acc v => if v.category = 2 then (acc.push (.val v)).push .second else acc.push (.val v)) acc).toList = acc.toList ++ lay l := by
  induction l with
  | nil => intro acc; simp [lay]
  | cons v l ih =>
    intro acc
    rw [List.foldl_cons, ih]
    by_cases h : v.category = 2 <;> simp [lay, h]
theorem args_lay (as : List Value) (ml : Nat) : argsToLocals as.toArray ml = (lay as ++ List.replicate (ml - (lay as).length) Slot.unset).toArray := by
  have h := lay_foldl as #[]
  apply Array.ext'
  simp only [argsToLocals, Array.toList_append, List.toList_toArray] at *
  rw [show (as.toArray.foldl (init := #[]) fun acc v => if v.category = 2 then (acc.push (Slot.val v)).push .second else acc.push (.val v)).toList = lay as by simpa using h]
  congr 1
  rw [← Array.length_toList, show (as.toArray.foldl (init := #[]) fun acc v => if v.category = 2 then (acc.push (Slot.val v)).push .second else acc.push (.val v)).toList = lay as by simpa using h]
  simp
def WFL (l : List Slot) : Prop := (∀ i : Nat, l[i]? = some .second → ∃ (j : Nat) (v : Value), i = j + 1 ∧ l[j]? = some (.val v) ∧ v.category = 2) ∧ (∀ (i : Nat) (v : Value), l[i]? = some (.val v) → v.category = 2 → l[i + 1]? = some .second)
theorem WFL.unset (n : Nat) : WFL (List.replicate n Slot.unset) := by
  refine ⟨fun i h => ?_, fun i v h => ?_⟩ <;> (rw [List.getElem?_replicate] at h; split at h <;> cases h)
theorem WFL.one {l : List Slot} {v : Value} (h : WFL l) (hv : v.category ≠ 2) : WFL (.val v :: l) := by
  refine ⟨fun i hi => ?_, fun i w hi hw => ?_⟩
  · cases i with
    | zero => simp at hi
    | succ i =>
      obtain ⟨j, w, e1, e2, e3⟩ := h.1 i (by simpa using hi)
      exact ⟨j + 1, w, by omega, by simpa using e2, e3⟩
  · cases i with
    | zero => simp at hi; subst hi; exact absurd hw hv
    | succ i => have := h.2 i w (by simpa using hi) hw; simpa using this
theorem WFL.two {l : List Slot} {v : Value} (h : WFL l) (hv : v.category = 2) : WFL (.val v :: .second :: l) := by
  refine ⟨fun i hi => ?_, fun i w hi hw => ?_⟩
  · match i, hi with
    | 0, hi => simp at hi
    | 1, hi => exact ⟨0, v, rfl, by simp, hv⟩
    | i + 2, hi =>
      obtain ⟨j, w, e1, e2, e3⟩ := h.1 i (by simpa using hi)
      exact ⟨j + 2, w, by omega, by simpa using e2, e3⟩
  · match i, hi with
    | 0, hi => simp
    | 1, hi => simp at hi
    | i + 2, hi => have := h.2 i w (by simpa using hi) hw; simpa using this
theorem WFL.lay (as : List Value) (n : Nat) : WFL (lay as ++ List.replicate n Slot.unset) := by
  induction as with
  | nil => exact WFL.unset n
  | cons v l ih =>
    by_cases h : v.category = 2
    · simpa [Jvm.Pilot.@@N@@.lay, h] using ih.two h
    · simpa [Jvm.Pilot.@@N@@.lay, h] using ih.one h
def pforget : List Bool → Pat → Pat
  | [], _ => []
  | _, [] => []
  | true :: ms, x :: l => x :: pforget ms l
  | false :: ms, _ :: l => none :: pforget ms l
theorem pforget_get : ∀ (ms : List Bool) (P : Pat) (i : Nat) (s : Slot), pget (pforget ms P) i = some s → pget P i = some s
  | [], _, i, s, h => by simp [pforget, pget] at h
  | _ :: _, [], i, s, h => by simp [pforget, pget] at h
  | true :: ms, x :: l, 0, s, h => h
  | true :: ms, x :: l, i + 1, s, h => pforget_get ms l i s h
  | false :: ms, x :: l, 0, s, h => by simp [pforget, pget] at h
  | false :: ms, x :: l, i + 1, s, h => pforget_get ms l i s h
section Calls
variable {C : Ctx} {M N : Bdy} {k n pc q : Nat} {P P' : Pat} {S S' : List Value} {G G1 : AH} {Q : Option Value → AH → Prop} {top : Nat} {a : Nat} {qq j idx W : Nat} {ob : Rec} {H : List (Nat × Nat × Rec)} {as : List Value}
theorem Runs.forget (ms : List Bool) (hP : pforget ms P = P') (h : Runs C M k n pc P' S G Q) : Runs C M k n pc P S G Q := by
  intro hw p e s m args below meth c T locs L hx hby hml hret hnm hown hZ hf
  subst hP
  exact h hw p e s m args below meth c T locs L hx hby hml hret hnm hown hZ ⟨fun i s hi => hf.1 i s (pforget_get _ _ i s hi), hf.2⟩
theorem Pays.of (hpl : plainName N.1.cls = true) (hml : (lay as).length ≤ N.2.2.1) (x : Nat) (hP : (lay as).map some ++ List.replicate x none = P) (h : Runs C N 0 0 0 P [] G Q) : Pays C N as G Q := by
  intro hw h0 hR ws
  refine MetFree.of_bodySF (plainFor_of_name hpl) hisR ?_
  intro p e s m args below meth c s₁ Bd hml0 hp hK
  obtain ⟨rfl, hZ, hh⟩ := hp
  have X0 : Stand p C.1 e N.2.2.2.2 s m as.toArray below meth c s₁ [] 0 0 := Stand.of_body Bd
  have e0 : s₁.heap = h0 := by rw [← hh, Bd.state]; rfl
  obtain ⟨L, hL⟩ : ∃ L : Array Slot, L = (lay as ++ List.replicate (N.2.2.1 - (lay as).length) Slot.unset).toArray := ⟨_, rfl⟩
  have hfit : Fits P L := by
    subst hP hL
    refine ⟨fun i s hi => ?_, ?_⟩
    · rw [pget_eq] at hi
      cases hq : (lay as)[i]? with
      | none =>
        rw [List.getElem?_append_right (by simpa using hq), List.getElem?_replicate] at hi
        split at hi <;> simp at hi
      | some y =>
        have hlt := (List.getElem?_eq_some_iff.mp hq).1
        rw [List.getElem?_append_left (by simpa using hlt), List.getElem?_map, hq] at hi
        have this : y = s := by simpa using hi
        simp only [List.getElem?_toArray]
        rw [List.getElem?_append_left hlt, hq, this]
    · have := WFL.lay as (N.2.2.1 - (lay as).length)
      refine ⟨fun i hi => ?_, fun i v hi hv => ?_⟩
      · rw [List.getElem?_toArray] at hi
        obtain ⟨j, v, e1, e2, e3⟩ := this.1 i hi
        exact ⟨j, v, e1, by rw [List.getElem?_toArray]; exact e2, e3⟩
      · rw [List.getElem?_toArray] at hi ⊢
        exact this.2 i v hi hv
  obtain ⟨T', locs', k', n', r, G', g1, g2, g3, g4, g5, g6, g7, g8⟩ := h hw p e s m as.toArray below meth c s₁ [] L Bd.exec Bd.bytes hml0 Bd.returns (name_of_methodNamed Bd.named Bd.method).1 (findClass_of_methodNamed Bd.named) hZ hfit (by rw [hL]; simp; omega) X0 (by rw [e0]; exact hR) (Fr.nil _)
  obtain ⟨fs, hr, hrun, hended, hW, hsame⟩ := g1.leave (v := r) (fun u => g7 (by rw [← Bd.returns]; exact u))
  refine ⟨_, _, ?_, hrun, hended, _, _, rfl, ⟨g5, G', ?_, g6⟩, ⟨_, rfl⟩, hW, hsame.mono g2 g3⟩
  · have ef : entryFrame m as.toArray N.2.2.1 = mkF m 0 L [] := by
      rw [hL, ← args_lay]; rfl
    rw [ef]; exact g8 fs hr
  · exact g4
abbrev room_al (M N : Bdy) (W k n : Nat) : Prop := N.2.2.2.2.frames + 1 ≤ M.2.2.2.2.frames ∧ W + (N.2.2.1 + 11) + N.2.2.2.2.locals ≤ M.2.2.2.2.locals ∧ k + N.2.2.2.2.cells ≤ M.2.2.2.2.cells ∧ n + N.2.2.2.2.slots ≤ M.2.2.2.2.slots
abbrev room_ok (M N : Bdy) (W : Nat) : Prop := N.2.2.2.2.frames + 1 ≤ M.2.2.2.2.frames ∧ W + (N.2.2.1 + 11) + N.2.2.2.2.locals ≤ M.2.2.2.2.locals ∧ N.2.2.2.2.cells = 0 ∧ N.2.2.2.2.slots = 0
abbrev full_ok (M : Bdy) (k n : Nat) : Prop := k ≤ M.2.2.2.2.cells ∧ n ≤ M.2.2.2.2.slots
theorem room_ok.al (h : room_ok M N W) (f : full_ok M k n) : room_al M N W k n := ⟨h.1, h.2.1, by rw [h.2.2.1]; exact f.1, by rw [h.2.2.2]; exact f.2⟩
abbrev code_w (N : Bdy) : Prop := Jvm.Cond.code N.1 N.2.1 N.2.2.1 N.2.2.2.1 ∈ tables_1 ∧ Jvm.Cond.initialized N.1.cls ∈ tables_1 ∧ (N.1.cls ≠ "java/lang/invoke/MethodHandle" ∧ N.1.cls ≠ "java/lang/invoke/VarHandle")
def arity (N : Bdy) (na : Nat) : Prop := ∃ ps r, parseMethodDescriptor N.1.desc = some ⟨ps, r⟩ ∧ na = ps.length
theorem arity.len {na : Nat} (h : arity N na) (e : as.length = na) : ∀ sig, parseMethodDescriptor N.1.desc = some sig → as.length = sig.parameters.length := by
  obtain ⟨ps, r, h1, h2⟩ := h
  exact lenOf h1 (e.trans h2)
theorem after_call {v : Option Value} {p : Program} {e : Env} {s : State} {m : MethodId} {args : Array Value} {below : List Frame} {meth : Method} {c : Code} {T T0 : State} {locs : List Loc} {L : Array Slot} {QN : Option Value → AH → Prop} {Lc : List Loc}
    (hw : Ok C) (hx : p.tables.exec = Jvm.exec) (hby : c.code = M.2.1) (hml : c.maxLocals = M.2.2.1) (hret : meth.sig.returnType = M.2.2.2.1) (hnm : meth.name = M.1.name) (hown : s.vm.findClass M.1.cls = some m.cls) (hZ : C.2.1.Warmed39 s.vm) (hf : Fits P L) (hsz : L.size = M.2.2.1) (hF : Fr C.2.2.1 locs)
    (X : Stand p C.1 e M.2.2.2.2 s m args below meth c T (locs ++ Lc) (k + N.2.2.2.2.cells) (n + N.2.2.2.2.slots)) (hQ : Fr C.2.2.1 Lc ∧ ∃ G', Rep C.2.1 C.2.2.1 T.heap G' ∧ QN v G')
    (h : ∀ v G', QN v G' → Runs C M (k + N.2.2.2.2.cells) (n + N.2.2.2.2.slots) (pc + 3) P (v.toList ++ S') G' Q)
    (st : ∀ t, Steps p.tables e below (T.setTop (mkF m (pc + 3) L (v.toList ++ S'))) t → Steps p.tables e below (T0.setTop (mkF m pc L S)) t) :
    ∃ (T' : State) (locs' : List Loc) (k' n' : Nat) (r : Option Value) (G' : AH), Stand p C.1 e M.2.2.2.2 s m args below meth c T' locs' k' n' ∧ k' ≤ M.2.2.2.2.cells ∧ n' ≤ M.2.2.2.2.slots ∧ Rep C.2.1 C.2.2.1 T'.heap G' ∧ Fr C.2.2.1 locs' ∧ Q r G' ∧
      (M.2.2.2.1 = none → r = none) ∧
      ∀ fs : List Frame, (∀ (f : JFrame) (acts : List Action), f.method = m → f.locked = none → f.entered = [] → (doReturn e (T'.setTop f) acts r).1 = T'.setFrames fs) → Steps p.tables e below (T0.setTop (mkF m pc L S)) (T'.setFrames fs) := by
  obtain ⟨f1, G', f2, f3⟩ := hQ
  obtain ⟨T', locs', k', n', r, G'', g1, g2, g3, g4, g5, g6, g7, g8⟩ := h v G' f3 hw p e s m args below meth c T _ L hx hby hml hret hnm hown hZ hf hsz X f2 (Fr.app hF f1)
  exact ⟨T', locs', k', n', r, G'', g1, g2, g3, g4, g5, g6, g7, fun fs hr => st _ (g8 fs hr)⟩
theorem Runs.callS {QN : Option Value → AH → Prop} (d : DAt M pc (.invokestatic idx) 3 q) (wl : Jvm.Cond.methodLink M.1.cls idx N.1 ∈ tables_1) (wt : Jvm.Cond.static N.1 ∈ tables_1) (wc : code_w N) (ar : arity N as.length) (hr0 : room_ok M N W) (hfull : full_ok M k n) (hS : S = as.reverse ++ S') (hW : (S'.map fun v => v.category).sum = W)
    (hN : Pays C N as G QN) (h : ∀ v G', QN v G' → Runs C M k n q P (v.toList ++ S') G' Q) : Runs C M k n pc P S G Q := by
  intro hw p e s m args below meth c T locs L hx hby hml hret hnm hown hZ hf hsz X hR hF
  have hq := d.2
  subst hq hS
  have hr := hr0.al hfull
  obtain ⟨_, _, ⟨T1, L1, k1, n1⟩, -, X1, ⟨Lc, hQ, l1, y1, z1⟩, st⟩ := Jvm.LawKit.callS X hx (y := N.1) hown (mvT hZ (hw _ wl)) (mvT hZ (hw _ wt)) (mvT hZ (hw _ wc.2.1)) (mvT hZ (hw _ wc.1)) wc.2.2 (backOf (W := W) (Q := fun v h L => Fr C.2.2.1 L ∧ ∃ G', Rep C.2.1 C.2.2.1 h G' ∧ QN v G') (hN hw T.heap hR []) hZ (hw _ wc.1) (hw _ wc.2.1) hr.1 hr.2.1) (g := mkF m pc L (as.reverse ++ S')) rfl (by rw [hml]; exact hsz) (argsL := as) (rest := S') (ar.len rfl) rfl (by show 2 * 0 + _ ≤ _; omega) (hb hby d.1) (fun _ _ => ⟨rfl, rfl, hr.2.2.1, hr.2.2.2⟩)
  dsimp only [Pt.U, Pt.locs, Pt.cells, Pt.slots] at X1 l1 y1 z1 st hQ
  subst l1 y1 z1
  exact after_call hw hx hby hml hret hnm hown hZ hf hsz hF X1 hQ (by rw [hr0.2.2.1, hr0.2.2.2]; exact h) (fun t u => st t u)
theorem Runs.callV {QN : Option Value → AH → Prop} (d : DAt M pc (.invokevirtual idx) 3 q) (wl : Jvm.Cond.methodLink M.1.cls idx N.1 ∈ tables_1) (wd : Jvm.Cond.declares N.1 ∈ tables_1) (wi : Jvm.Cond.instanceMethod N.1 ∈ tables_1) (ws : Jvm.Cond.selects K.1 N.1 N.1 ∈ tables_1) (wc : code_w N) (ar : arity N as.length) (hr0 : room_ok M N W) (hfull : full_ok M k n) (hS : S = as.reverse ++ .ref a :: S') (hW : (S'.map fun v => v.category).sum = W)
    (hN : Pays C N (.ref a :: as) (top, (a, qq, ob) :: H) QN) (h : ∀ v G', QN v G' → Runs C M k n q P (v.toList ++ S') G' Q) : Runs C M k n pc P S (top, (a, qq, ob) :: H) Q := by
  intro hw p e s m args below meth c T locs L hx hby hml hret hnm hown hZ hf hsz X hR hF
  have hq := d.2
  subst hq hS
  have hr := hr0.al hfull
  obtain ⟨cB, kB, u1, -, u3⟩ := isOf hZ rfl hR.objs.2.2.1
  obtain ⟨_, _, ⟨T1, L1, k1, n1⟩, -, X1, ⟨Lc, hQ, l1, y1, z1⟩, st⟩ := X.virtualBack hx (y := N.1) (z := N.1) hown (mvT hZ (hw _ wl)) (mvT hZ (hw _ wd)) (notFace_of_selects (args := #[]) (mvT hZ (hw _ ws))) (mvT hZ (hw _ ws)) (mvT hZ (hw _ wi)) wc.2.2 (backOf (W := W) (Q := fun v h L => Fr C.2.2.1 L ∧ ∃ G', Rep C.2.1 C.2.2.1 h G' ∧ QN v G') (hN hw T.heap hR []) hZ (hw _ wc.1) (hw _ wc.2.1) hr.1 hr.2.1) u1 u3 (g := mkF m pc L (as.reverse ++ .ref a :: S')) rfl (by rw [hml]; exact hsz) (Steps.refl _) (argsL := as) (rest := S') (ar.len rfl) rfl (by show 2 * 0 + _ ≤ _; omega) (hb hby d.1) (fun _ _ => ⟨rfl, rfl, hr.2.2.1, hr.2.2.2⟩)
  dsimp only [Pt.U, Pt.locs, Pt.cells, Pt.slots] at X1 l1 y1 z1 st hQ
  subst l1 y1 z1
  exact after_call hw hx hby hml hret hnm hown hZ hf hsz hF X1 hQ (by rw [hr0.2.2.1, hr0.2.2.2]; exact h) (fun t u => st.trans u)
theorem Runs.callP {QN : Option Value → AH → Prop} (d : DAt M pc (.invokevirtual idx) 3 q) (wl : Jvm.Cond.methodLink M.1.cls idx N.1 ∈ tables_1) (wi : Jvm.Cond.instanceMethod N.1 ∈ tables_1) (wp : Jvm.Cond.privateMethod N.1 ∈ tables_1) (wK : N.1.cls = K.1) (wc : code_w N) (ar : arity N as.length) (hr0 : room_ok M N W) (hfull : full_ok M k n) (hS : S = as.reverse ++ .ref a :: S') (hW : (S'.map fun v => v.category).sum = W)
    (hN : Pays C N (.ref a :: as) (top, (a, qq, ob) :: H) QN) (h : ∀ v G', QN v G' → Runs C M k n q P (v.toList ++ S') G' Q) : Runs C M k n pc P S (top, (a, qq, ob) :: H) Q := by
  intro hw p e s m args below meth c T locs L hx hby hml hret hnm hown hZ hf hsz X hR hF
  have hq := d.2
  subst hq hS
  have hr := hr0.al hfull
  obtain ⟨cl, u1, u2⟩ := hR.objs.2.2.1.cell
  have hpr : s.PrivateAt N.1 := Cond.privateMethod_at (mvP hZ (hw _ wp) (args := #[]))
  obtain ⟨c2, k2, i1, i2, i3, i4, -⟩ := Cond.instantiable_spec (mvT (args := args) hZ (hw _ kI))
  have hsel : (Jvm.Cond.selects N.1.cls N.1 N.1).before args s = true := Stand.selects_self_of_private (by rw [wK]; exact i1) i2 (by simp at i4; exact i4.1) hpr (mvT hZ (hw _ wi)) wc.2.2
  obtain ⟨_, _, ⟨T1, L1, k1, n1⟩, -, X1, ⟨Lc, hQ, l1, y1, z1⟩, st⟩ := X.privateBack hx (y := N.1) hown (mvT hZ (hw _ wl)) (mvT hZ (hw _ wi)) hsel hpr (mvT hZ (hw _ wc.1)) wc.2.2 (backOf (W := W) (Q := fun v h L => Fr C.2.2.1 L ∧ ∃ G', Rep C.2.1 C.2.2.1 h G' ∧ QN v G') (hN hw T.heap hR []) hZ (hw _ wc.1) (hw _ wc.2.1) hr.1 hr.2.1) (g := mkF m pc L (as.reverse ++ .ref a :: S')) rfl (by rw [hml]; exact hsz) (Steps.refl _) (a := a) u1 u2 (argsL := as) (rest := S') (ar.len rfl) rfl (by show 2 * 0 + _ ≤ _; omega) (hb hby d.1) (fun _ _ => ⟨rfl, rfl, hr.2.2.1, hr.2.2.2⟩)
  dsimp only [Pt.U, Pt.locs, Pt.cells, Pt.slots] at X1 l1 y1 z1 st hQ
  subst l1 y1 z1
  exact after_call hw hx hby hml hret hnm hown hZ hf hsz hF X1 hQ (by rw [hr0.2.2.1, hr0.2.2.2]; exact h) (fun t u => st.trans u)
theorem Runs.callI {QN : Option Value → AH → Prop} (d : DAt M pc (.invokespecial idx) 3 q) (hi : N.1.name = "<init>") (hn : N.2.2.2.1 = none) (wl : Jvm.Cond.methodLink M.1.cls idx N.1 ∈ tables_1) (wi : Jvm.Cond.instanceMethod N.1 ∈ tables_1) (wc : code_w N) (ar : arity N as.length) (hr : room_al M N W k n) (hS : S = as.reverse ++ .ref a :: S') (hW : (S'.map fun v => v.category).sum = W) {k' n' : Nat} (hk' : k + N.2.2.2.2.cells = k') (hn' : n + N.2.2.2.2.slots = n')
    (hN : Pays C N (.ref a :: as) G QN) (h : ∀ v G', QN v G' → Runs C M k' n' q P (v.toList ++ S') G' Q) : Runs C M k n pc P S G Q := by
  intro hw p e s m args below meth c T locs L hx hby hml hret hnm hown hZ hf hsz X hR hF
  have hq := d.2
  subst hq hS hk' hn'
  have wc1 := hw _ wc.1
  obtain ⟨_, _, ⟨T1, L1, k1, n1⟩, -, X1, ⟨Lc, hQ, l1, y1, z1⟩, st⟩ := X.specialBack hx (y := N.1) hi hown (mvT hZ (hw _ wl)) (mvT hZ (hw _ wi)) (bytes := N.2.1) (maxL := N.2.2.1) (by have := mvT (args := args) hZ wc1; rw [hn] at this; exact this) wc.2.2 (backOf (W := W) (Q := fun v h L => Fr C.2.2.1 L ∧ ∃ G', Rep C.2.1 C.2.2.1 h G' ∧ QN v G') (hN hw T.heap hR []) hZ wc1 (hw _ wc.2.1) hr.1 hr.2.1) (g := mkF m pc L (as.reverse ++ .ref a :: S')) rfl (by rw [hml]; exact hsz) (Steps.refl _) (a := a) (argsL := as) (rest := S') (ar.len rfl) rfl (by show 2 * 0 + _ ≤ _; omega) (hb hby d.1) (fun _ _ => ⟨rfl, rfl, hr.2.2.1, hr.2.2.2⟩)
  dsimp only [Pt.U, Pt.locs, Pt.cells, Pt.slots] at X1 l1 y1 z1 st hQ
  subst l1 y1 z1
  exact after_call hw hx hby hml hret hnm hown hZ hf hsz hF X1 hQ h (fun t u => st.trans u)
/-- the plain form of a contract: one answer, one heap -/
abbrev Ans (r : Option Value) (G1 : AH) : Option Value → AH → Prop := fun v G' => v = r ∧ G' = G1
theorem ans1 {x : Value} {k n : Nat} (h : Runs C M k n pc P (x :: S) G1 Q) : ∀ v G', Ans (some x) G1 v G' → Runs C M k n pc P (v.toList ++ S) G' Q := by
  rintro v G' ⟨rfl, rfl⟩; exact h
theorem ans0 {k n : Nat} (h : Runs C M k n pc P S G1 Q) : ∀ v G', Ans none G1 v G' → Runs C M k n pc P (v.toList ++ S) G' Q := by
  rintro v G' ⟨rfl, rfl⟩; exact h
end Calls
theorem pnK : plainName "SaturProver" = true := by first | (simp [plainName, overriddenIn]; done) | decide +kernel
theorem pnL : plainName "SaturProverL6" = true := by first | (simp [plainName, overriddenIn]; done) | decide +kernel
theorem w0 : (Jvm.Cond.classLink "SaturProverL6" (10 : Nat) "SaturProver") ∈ tables_1 := mem1 0 rfl
theorem w3 : (Jvm.Cond.methodLink "SaturProverL6" (15 : Nat) ({ cls := "SaturProver", name := "<init>", desc := "(I)V" } : Jvm.MethodName)) ∈ tables_1 := mem1 3 rfl
theorem w4 : (Jvm.Cond.instanceMethod ({ cls := "SaturProver", name := "<init>", desc := "(I)V" } : Jvm.MethodName)) ∈ tables_1 := mem1 4 rfl
theorem w6 : (Jvm.Cond.methodLink "SaturProver" (1 : Nat) ({ cls := "java/lang/Object", name := "<init>", desc := "()V" } : Jvm.MethodName)) ∈ tables_1 := mem1 6 rfl
theorem w7 : (Jvm.Cond.instanceMethod ({ cls := "java/lang/Object", name := "<init>", desc := "()V" } : Jvm.MethodName)) ∈ tables_1 := mem1 7 rfl
theorem w8 : (Jvm.Cond.code ({ cls := "java/lang/Object", name := "<init>", desc := "()V" } : Jvm.MethodName) object_method_1_code (1 : Nat) (Option.none : Option Jvm.ClassFile.FieldType)) ∈ tables_1 := mem1 8 rfl
theorem w9 : (Jvm.Cond.arrayClass Jvm.ClassFile.FieldType.int) ∈ tables_1 := mem1 9 rfl
theorem w10 : (Jvm.Cond.fieldLink "SaturProver" (7 : Nat) "SaturProver" "toks" "[I") ∈ tables_1 := mem1 10 rfl
theorem w12 : (Jvm.Cond.fieldLink "SaturProver" (13 : Nat) "SaturProver" "saved" "[I") ∈ tables_1 := mem1 12 rfl
theorem w14 : (Jvm.Cond.arrayClass Jvm.ClassFile.FieldType.long) ∈ tables_1 := mem1 14 rfl
theorem w15 : (Jvm.Cond.fieldLink "SaturProver" (16 : Nat) "SaturProver" "stk" "[J") ∈ tables_1 := mem1 15 rfl
theorem w17 : (Jvm.Cond.fieldLink "SaturProver" (20 : Nat) "SaturProver" "tabF" "[J") ∈ tables_1 := mem1 17 rfl
theorem w19 : (Jvm.Cond.fieldLink "SaturProver" (23 : Nat) "SaturProver" "tabS" "[J") ∈ tables_1 := mem1 19 rfl
theorem w21 : (Jvm.Cond.fieldLink "SaturProver" (26 : Nat) "SaturProver" "work" "[J") ∈ tables_1 := mem1 21 rfl
theorem w23 : (Jvm.Cond.fieldLink "SaturProver" (29 : Nat) "SaturProver" "cap" "I") ∈ tables_1 := mem1 23 rfl
theorem w24 : (Jvm.Cond.lays "SaturProver" "SaturProver" "cap" "I") ∈ tables_1 := mem1 24 rfl
theorem w25 : (Jvm.Cond.fieldLink "SaturProver" (33 : Nat) "SaturProver" "n" "I") ∈ tables_1 := mem1 25 rfl
theorem w26 : (Jvm.Cond.lays "SaturProver" "SaturProver" "n" "I") ∈ tables_1 := mem1 26 rfl
theorem w27 : (Jvm.Cond.fieldLink "SaturProver" (36 : Nat) "SaturProver" "dep" "I") ∈ tables_1 := mem1 27 rfl
theorem w28 : (Jvm.Cond.lays "SaturProver" "SaturProver" "dep" "I") ∈ tables_1 := mem1 28 rfl
theorem w29 : (Jvm.Cond.fieldLink "SaturProver" (39 : Nat) "SaturProver" "sn" "I") ∈ tables_1 := mem1 29 rfl
theorem w30 : (Jvm.Cond.lays "SaturProver" "SaturProver" "sn" "I") ∈ tables_1 := mem1 30 rfl
theorem w31 : (Jvm.Cond.fieldLink "SaturProver" (42 : Nat) "SaturProver" "hasSaved" "Z") ∈ tables_1 := mem1 31 rfl
theorem w32 : (Jvm.Cond.lays "SaturProver" "SaturProver" "hasSaved" "Z") ∈ tables_1 := mem1 32 rfl
theorem w33 : (Jvm.Cond.fieldLink "SaturProver" (46 : Nat) "SaturProver" "fValid" "Z") ∈ tables_1 := mem1 33 rfl
theorem w34 : (Jvm.Cond.lays "SaturProver" "SaturProver" "fValid" "Z") ∈ tables_1 := mem1 34 rfl
theorem w35 : (Jvm.Cond.methodLink "SaturProver" (49 : Nat) ({ cls := "SaturProver", name := "resetResult", desc := "()V" } : Jvm.MethodName)) ∈ tables_1 := mem1 35 rfl
theorem w36 : (Jvm.Cond.instanceMethod ({ cls := "SaturProver", name := "resetResult", desc := "()V" } : Jvm.MethodName)) ∈ tables_1 := mem1 36 rfl
theorem w37 : (Jvm.Cond.privateMethod ({ cls := "SaturProver", name := "resetResult", desc := "()V" } : Jvm.MethodName)) ∈ tables_1 := mem1 37 rfl
theorem w39 : (Jvm.Cond.fieldLink "SaturProver" (89 : Nat) "SaturProver" "res" "I") ∈ tables_1 := mem1 39 rfl
theorem w40 : (Jvm.Cond.lays "SaturProver" "SaturProver" "res" "I") ∈ tables_1 := mem1 40 rfl
theorem w41 : (Jvm.Cond.fieldLink "SaturProver" (92 : Nat) "SaturProver" "wit" "I") ∈ tables_1 := mem1 41 rfl
theorem w42 : (Jvm.Cond.lays "SaturProver" "SaturProver" "wit" "I") ∈ tables_1 := mem1 42 rfl
theorem w43 : (Jvm.Cond.constant "SaturProverL6" (18 : Nat) (65535 : Int32)) ∈ tables_1 := mem1 43 rfl
theorem w44 : (Jvm.Cond.methodLink "SaturProverL6" (19 : Nat) ({ cls := "SaturProver", name := "pushToken", desc := "(I)I" } : Jvm.MethodName)) ∈ tables_1 := mem1 44 rfl
theorem w45 : (Jvm.Cond.declares ({ cls := "SaturProver", name := "pushToken", desc := "(I)I" } : Jvm.MethodName)) ∈ tables_1 := mem1 45 rfl
theorem w46 : (Jvm.Cond.instanceMethod ({ cls := "SaturProver", name := "pushToken", desc := "(I)I" } : Jvm.MethodName)) ∈ tables_1 := mem1 46 rfl
theorem w47 : (Jvm.Cond.selects "SaturProver" ({ cls := "SaturProver", name := "pushToken", desc := "(I)I" } : Jvm.MethodName) ({ cls := "SaturProver", name := "pushToken", desc := "(I)I" } : Jvm.MethodName)) ∈ tables_1 := mem1 47 rfl
theorem w49 : (Jvm.Cond.methodLink "SaturProver" (52 : Nat) ({ cls := "SaturProver", name := "arity", desc := "(I)I" } : Jvm.MethodName)) ∈ tables_1 := mem1 49 rfl
theorem w50 : (Jvm.Cond.instanceMethod ({ cls := "SaturProver", name := "arity", desc := "(I)I" } : Jvm.MethodName)) ∈ tables_1 := mem1 50 rfl
theorem w51 : (Jvm.Cond.privateMethod ({ cls := "SaturProver", name := "arity", desc := "(I)I" } : Jvm.MethodName)) ∈ tables_1 := mem1 51 rfl
theorem w53 : (Jvm.Cond.methodLink "SaturProverL6" (22 : Nat) ({ cls := "SaturProverL6", name := "ar", desc := "(I)I" } : Jvm.MethodName)) ∈ tables_1 := mem1 53 rfl
theorem w54 : (Jvm.Cond.static ({ cls := "SaturProverL6", name := "ar", desc := "(I)I" } : Jvm.MethodName)) ∈ tables_1 := mem1 54 rfl
theorem w57 : (Jvm.Cond.methodLink "SaturProverL6" (55 : Nat) ({ cls := "SaturProver", name := "length", desc := "()I" } : Jvm.MethodName)) ∈ tables_1 := mem1 57 rfl
theorem w58 : (Jvm.Cond.declares ({ cls := "SaturProver", name := "length", desc := "()I" } : Jvm.MethodName)) ∈ tables_1 := mem1 58 rfl
theorem w59 : (Jvm.Cond.instanceMethod ({ cls := "SaturProver", name := "length", desc := "()I" } : Jvm.MethodName)) ∈ tables_1 := mem1 59 rfl
theorem w60 : (Jvm.Cond.selects "SaturProver" ({ cls := "SaturProver", name := "length", desc := "()I" } : Jvm.MethodName) ({ cls := "SaturProver", name := "length", desc := "()I" } : Jvm.MethodName)) ∈ tables_1 := mem1 60 rfl
theorem w62 : (Jvm.Cond.methodLink "SaturProverL6" (58 : Nat) ({ cls := "SaturProver", name := "depth", desc := "()I" } : Jvm.MethodName)) ∈ tables_1 := mem1 62 rfl
theorem w63 : (Jvm.Cond.declares ({ cls := "SaturProver", name := "depth", desc := "()I" } : Jvm.MethodName)) ∈ tables_1 := mem1 63 rfl
theorem w64 : (Jvm.Cond.instanceMethod ({ cls := "SaturProver", name := "depth", desc := "()I" } : Jvm.MethodName)) ∈ tables_1 := mem1 64 rfl
theorem w65 : (Jvm.Cond.selects "SaturProver" ({ cls := "SaturProver", name := "depth", desc := "()I" } : Jvm.MethodName) ({ cls := "SaturProver", name := "depth", desc := "()I" } : Jvm.MethodName)) ∈ tables_1 := mem1 65 rfl
theorem w67 : (Jvm.Cond.methodLink "SaturProverL6" (61 : Nat) ({ cls := "SaturProver", name := "isComplete", desc := "()Z" } : Jvm.MethodName)) ∈ tables_1 := mem1 67 rfl
theorem w68 : (Jvm.Cond.declares ({ cls := "SaturProver", name := "isComplete", desc := "()Z" } : Jvm.MethodName)) ∈ tables_1 := mem1 68 rfl
theorem w69 : (Jvm.Cond.instanceMethod ({ cls := "SaturProver", name := "isComplete", desc := "()Z" } : Jvm.MethodName)) ∈ tables_1 := mem1 69 rfl
theorem w70 : (Jvm.Cond.selects "SaturProver" ({ cls := "SaturProver", name := "isComplete", desc := "()Z" } : Jvm.MethodName) ({ cls := "SaturProver", name := "isComplete", desc := "()Z" } : Jvm.MethodName)) ∈ tables_1 := mem1 70 rfl
theorem w72 : (Jvm.Cond.methodLink "SaturProver" (56 : Nat) ({ cls := "SaturProver", name := "completeF", desc := "()Z" } : Jvm.MethodName)) ∈ tables_1 := mem1 72 rfl
theorem w73 : (Jvm.Cond.instanceMethod ({ cls := "SaturProver", name := "completeF", desc := "()Z" } : Jvm.MethodName)) ∈ tables_1 := mem1 73 rfl
theorem w74 : (Jvm.Cond.privateMethod ({ cls := "SaturProver", name := "completeF", desc := "()Z" } : Jvm.MethodName)) ∈ tables_1 := mem1 74 rfl
theorem w76 : (Jvm.Cond.methodLink "SaturProverL6" (65 : Nat) ({ cls := "SaturProver", name := "savedLength", desc := "()I" } : Jvm.MethodName)) ∈ tables_1 := mem1 76 rfl
theorem w77 : (Jvm.Cond.declares ({ cls := "SaturProver", name := "savedLength", desc := "()I" } : Jvm.MethodName)) ∈ tables_1 := mem1 77 rfl
theorem w78 : (Jvm.Cond.instanceMethod ({ cls := "SaturProver", name := "savedLength", desc := "()I" } : Jvm.MethodName)) ∈ tables_1 := mem1 78 rfl
theorem w79 : (Jvm.Cond.selects "SaturProver" ({ cls := "SaturProver", name := "savedLength", desc := "()I" } : Jvm.MethodName) ({ cls := "SaturProver", name := "savedLength", desc := "()I" } : Jvm.MethodName)) ∈ tables_1 := mem1 79 rfl
theorem w81 : (Jvm.Cond.methodLink "SaturProverL6" (68 : Nat) ({ cls := "SaturProver", name := "lastResult", desc := "()I" } : Jvm.MethodName)) ∈ tables_1 := mem1 81 rfl
theorem w82 : (Jvm.Cond.declares ({ cls := "SaturProver", name := "lastResult", desc := "()I" } : Jvm.MethodName)) ∈ tables_1 := mem1 82 rfl
theorem w83 : (Jvm.Cond.instanceMethod ({ cls := "SaturProver", name := "lastResult", desc := "()I" } : Jvm.MethodName)) ∈ tables_1 := mem1 83 rfl
theorem w84 : (Jvm.Cond.selects "SaturProver" ({ cls := "SaturProver", name := "lastResult", desc := "()I" } : Jvm.MethodName) ({ cls := "SaturProver", name := "lastResult", desc := "()I" } : Jvm.MethodName)) ∈ tables_1 := mem1 84 rfl
theorem w86 : (Jvm.Cond.methodLink "SaturProverL6" (45 : Nat) ({ cls := "SaturProver", name := "witness", desc := "()I" } : Jvm.MethodName)) ∈ tables_1 := mem1 86 rfl
theorem w87 : (Jvm.Cond.declares ({ cls := "SaturProver", name := "witness", desc := "()I" } : Jvm.MethodName)) ∈ tables_1 := mem1 87 rfl
theorem w88 : (Jvm.Cond.instanceMethod ({ cls := "SaturProver", name := "witness", desc := "()I" } : Jvm.MethodName)) ∈ tables_1 := mem1 88 rfl
theorem w89 : (Jvm.Cond.selects "SaturProver" ({ cls := "SaturProver", name := "witness", desc := "()I" } : Jvm.MethodName) ({ cls := "SaturProver", name := "witness", desc := "()I" } : Jvm.MethodName)) ∈ tables_1 := mem1 89 rfl
theorem w91 : (Jvm.Cond.methodLink "SaturProverL6" (71 : Nat) ({ cls := "SaturProver", name := "usedVars", desc := "()I" } : Jvm.MethodName)) ∈ tables_1 := mem1 91 rfl
theorem w92 : (Jvm.Cond.declares ({ cls := "SaturProver", name := "usedVars", desc := "()I" } : Jvm.MethodName)) ∈ tables_1 := mem1 92 rfl
theorem w93 : (Jvm.Cond.instanceMethod ({ cls := "SaturProver", name := "usedVars", desc := "()I" } : Jvm.MethodName)) ∈ tables_1 := mem1 93 rfl
theorem w94 : (Jvm.Cond.selects "SaturProver" ({ cls := "SaturProver", name := "usedVars", desc := "()I" } : Jvm.MethodName) ({ cls := "SaturProver", name := "usedVars", desc := "()I" } : Jvm.MethodName)) ∈ tables_1 := mem1 94 rfl
theorem w96 : (Jvm.Cond.methodLink "SaturProverL6" (74 : Nat) ({ cls := "SaturProverL6", name := "usedOf", desc := "(JI)I" } : Jvm.MethodName)) ∈ tables_1 := mem1 96 rfl
theorem w97 : (Jvm.Cond.static ({ cls := "SaturProverL6", name := "usedOf", desc := "(JI)I" } : Jvm.MethodName)) ∈ tables_1 := mem1 97 rfl
theorem w99 : (Jvm.Cond.constantLong "SaturProverL6" (7 : Nat) (15 : Int64)) ∈ tables_1 := mem1 99 rfl
theorem w100 : (Jvm.Cond.methodLink "SaturProverL6" (78 : Nat) ({ cls := "SaturProver", name := "tokenAt", desc := "(I)I" } : Jvm.MethodName)) ∈ tables_1 := mem1 100 rfl
theorem w101 : (Jvm.Cond.declares ({ cls := "SaturProver", name := "tokenAt", desc := "(I)I" } : Jvm.MethodName)) ∈ tables_1 := mem1 101 rfl
theorem w102 : (Jvm.Cond.instanceMethod ({ cls := "SaturProver", name := "tokenAt", desc := "(I)I" } : Jvm.MethodName)) ∈ tables_1 := mem1 102 rfl
theorem w103 : (Jvm.Cond.selects "SaturProver" ({ cls := "SaturProver", name := "tokenAt", desc := "(I)I" } : Jvm.MethodName) ({ cls := "SaturProver", name := "tokenAt", desc := "(I)I" } : Jvm.MethodName)) ∈ tables_1 := mem1 103 rfl
theorem w105 : (Jvm.Cond.methodLink "SaturProverL6" (33 : Nat) ({ cls := "SaturProver", name := "clear", desc := "()V" } : Jvm.MethodName)) ∈ tables_1 := mem1 105 rfl
theorem w106 : (Jvm.Cond.declares ({ cls := "SaturProver", name := "clear", desc := "()V" } : Jvm.MethodName)) ∈ tables_1 := mem1 106 rfl
theorem w107 : (Jvm.Cond.instanceMethod ({ cls := "SaturProver", name := "clear", desc := "()V" } : Jvm.MethodName)) ∈ tables_1 := mem1 107 rfl
theorem w108 : (Jvm.Cond.selects "SaturProver" ({ cls := "SaturProver", name := "clear", desc := "()V" } : Jvm.MethodName) ({ cls := "SaturProver", name := "clear", desc := "()V" } : Jvm.MethodName)) ∈ tables_1 := mem1 108 rfl
theorem w110 : (Jvm.Cond.methodLink "SaturProverL6" (27 : Nat) ({ cls := "SaturProver", name := "removeLast", desc := "()I" } : Jvm.MethodName)) ∈ tables_1 := mem1 110 rfl
theorem w111 : (Jvm.Cond.declares ({ cls := "SaturProver", name := "removeLast", desc := "()I" } : Jvm.MethodName)) ∈ tables_1 := mem1 111 rfl
theorem w112 : (Jvm.Cond.instanceMethod ({ cls := "SaturProver", name := "removeLast", desc := "()I" } : Jvm.MethodName)) ∈ tables_1 := mem1 112 rfl
theorem w113 : (Jvm.Cond.selects "SaturProver" ({ cls := "SaturProver", name := "removeLast", desc := "()I" } : Jvm.MethodName) ({ cls := "SaturProver", name := "removeLast", desc := "()I" } : Jvm.MethodName)) ∈ tables_1 := mem1 113 rfl
theorem w115 : (Jvm.Cond.methodLink "SaturProverL6" (42 : Nat) ({ cls := "SaturProver", name := "satisfy", desc := "()I" } : Jvm.MethodName)) ∈ tables_1 := mem1 115 rfl
theorem w116 : (Jvm.Cond.declares ({ cls := "SaturProver", name := "satisfy", desc := "()I" } : Jvm.MethodName)) ∈ tables_1 := mem1 116 rfl
theorem w117 : (Jvm.Cond.instanceMethod ({ cls := "SaturProver", name := "satisfy", desc := "()I" } : Jvm.MethodName)) ∈ tables_1 := mem1 117 rfl
theorem w118 : (Jvm.Cond.selects "SaturProver" ({ cls := "SaturProver", name := "satisfy", desc := "()I" } : Jvm.MethodName) ({ cls := "SaturProver", name := "satisfy", desc := "()I" } : Jvm.MethodName)) ∈ tables_1 := mem1 118 rfl
theorem w120 : (Jvm.Cond.methodLink "SaturProverL6" (36 : Nat) ({ cls := "SaturProver", name := "save", desc := "()I" } : Jvm.MethodName)) ∈ tables_1 := mem1 120 rfl
theorem w121 : (Jvm.Cond.declares ({ cls := "SaturProver", name := "save", desc := "()I" } : Jvm.MethodName)) ∈ tables_1 := mem1 121 rfl
theorem w122 : (Jvm.Cond.instanceMethod ({ cls := "SaturProver", name := "save", desc := "()I" } : Jvm.MethodName)) ∈ tables_1 := mem1 122 rfl
theorem w123 : (Jvm.Cond.selects "SaturProver" ({ cls := "SaturProver", name := "save", desc := "()I" } : Jvm.MethodName) ({ cls := "SaturProver", name := "save", desc := "()I" } : Jvm.MethodName)) ∈ tables_1 := mem1 123 rfl
theorem w125 : (Jvm.Cond.methodLink "SaturProver" (60 : Nat) ({ cls := "SaturProver", name := "copyTokensToSaved", desc := "()V" } : Jvm.MethodName)) ∈ tables_1 := mem1 125 rfl
theorem w126 : (Jvm.Cond.instanceMethod ({ cls := "SaturProver", name := "copyTokensToSaved", desc := "()V" } : Jvm.MethodName)) ∈ tables_1 := mem1 126 rfl
theorem w127 : (Jvm.Cond.privateMethod ({ cls := "SaturProver", name := "copyTokensToSaved", desc := "()V" } : Jvm.MethodName)) ∈ tables_1 := mem1 127 rfl
theorem w129 : (Jvm.Cond.methodLink "SaturProver" (63 : Nat) ({ cls := "SaturProver", name := "ensureTableF", desc := "()V" } : Jvm.MethodName)) ∈ tables_1 := mem1 129 rfl
theorem w130 : (Jvm.Cond.instanceMethod ({ cls := "SaturProver", name := "ensureTableF", desc := "()V" } : Jvm.MethodName)) ∈ tables_1 := mem1 130 rfl
theorem w131 : (Jvm.Cond.privateMethod ({ cls := "SaturProver", name := "ensureTableF", desc := "()V" } : Jvm.MethodName)) ∈ tables_1 := mem1 131 rfl
theorem w133 : (Jvm.Cond.methodLink "SaturProver" (95 : Nat) ({ cls := "SaturProver", name := "step", desc := "(II)I" } : Jvm.MethodName)) ∈ tables_1 := mem1 133 rfl
theorem w134 : (Jvm.Cond.instanceMethod ({ cls := "SaturProver", name := "step", desc := "(II)I" } : Jvm.MethodName)) ∈ tables_1 := mem1 134 rfl
theorem w135 : (Jvm.Cond.privateMethod ({ cls := "SaturProver", name := "step", desc := "(II)I" } : Jvm.MethodName)) ∈ tables_1 := mem1 135 rfl
theorem w137 : (Jvm.Cond.methodLink "SaturProver" (103 : Nat) ({ cls := "SaturProver", name := "pushLeaf", desc := "(II)V" } : Jvm.MethodName)) ∈ tables_1 := mem1 137 rfl
theorem w138 : (Jvm.Cond.instanceMethod ({ cls := "SaturProver", name := "pushLeaf", desc := "(II)V" } : Jvm.MethodName)) ∈ tables_1 := mem1 138 rfl
theorem w139 : (Jvm.Cond.privateMethod ({ cls := "SaturProver", name := "pushLeaf", desc := "(II)V" } : Jvm.MethodName)) ∈ tables_1 := mem1 139 rfl
theorem w141 : (Jvm.Cond.methodLink "SaturProver" (112 : Nat) ({ cls := "SaturProver", name := "leafWord", desc := "(II)J" } : Jvm.MethodName)) ∈ tables_1 := mem1 141 rfl
theorem w142 : (Jvm.Cond.instanceMethod ({ cls := "SaturProver", name := "leafWord", desc := "(II)J" } : Jvm.MethodName)) ∈ tables_1 := mem1 142 rfl
theorem w143 : (Jvm.Cond.privateMethod ({ cls := "SaturProver", name := "leafWord", desc := "(II)J" } : Jvm.MethodName)) ∈ tables_1 := mem1 143 rfl
theorem w145 : (Jvm.Cond.methodLink "SaturProver" (122 : Nat) ({ cls := "SaturProver", name := "varWord", desc := "(II)J" } : Jvm.MethodName)) ∈ tables_1 := mem1 145 rfl
theorem w146 : (Jvm.Cond.instanceMethod ({ cls := "SaturProver", name := "varWord", desc := "(II)J" } : Jvm.MethodName)) ∈ tables_1 := mem1 146 rfl
theorem w147 : (Jvm.Cond.privateMethod ({ cls := "SaturProver", name := "varWord", desc := "(II)J" } : Jvm.MethodName)) ∈ tables_1 := mem1 147 rfl
theorem w149 : (Jvm.Cond.constantLong "SaturProver" (135 : Nat) (-4294967296 : Int64)) ∈ tables_1 := mem1 149 rfl
theorem w150 : (Jvm.Cond.methodLink "SaturProver" (99 : Nat) ({ cls := "SaturProver", name := "storeTopIntoF", desc := "(I)V" } : Jvm.MethodName)) ∈ tables_1 := mem1 150 rfl
theorem w151 : (Jvm.Cond.instanceMethod ({ cls := "SaturProver", name := "storeTopIntoF", desc := "(I)V" } : Jvm.MethodName)) ∈ tables_1 := mem1 151 rfl
theorem w152 : (Jvm.Cond.privateMethod ({ cls := "SaturProver", name := "storeTopIntoF", desc := "(I)V" } : Jvm.MethodName)) ∈ tables_1 := mem1 152 rfl
theorem w154 : (Jvm.Cond.methodLink "SaturProver" (66 : Nat) ({ cls := "SaturProver", name := "copyTableFToS", desc := "()V" } : Jvm.MethodName)) ∈ tables_1 := mem1 154 rfl
theorem w155 : (Jvm.Cond.instanceMethod ({ cls := "SaturProver", name := "copyTableFToS", desc := "()V" } : Jvm.MethodName)) ∈ tables_1 := mem1 155 rfl
theorem w156 : (Jvm.Cond.privateMethod ({ cls := "SaturProver", name := "copyTableFToS", desc := "()V" } : Jvm.MethodName)) ∈ tables_1 := mem1 156 rfl
theorem w158 : (Jvm.Cond.constantLong "SaturProverL6" (31 : Nat) (-1 : Int64)) ∈ tables_1 := mem1 158 rfl
theorem w159 : (Jvm.Cond.methodLink "SaturProverL6" (52 : Nat) ({ cls := "SaturProver", name := "equivalent", desc := "()I" } : Jvm.MethodName)) ∈ tables_1 := mem1 159 rfl
theorem w160 : (Jvm.Cond.declares ({ cls := "SaturProver", name := "equivalent", desc := "()I" } : Jvm.MethodName)) ∈ tables_1 := mem1 160 rfl
theorem w161 : (Jvm.Cond.instanceMethod ({ cls := "SaturProver", name := "equivalent", desc := "()I" } : Jvm.MethodName)) ∈ tables_1 := mem1 161 rfl
theorem w162 : (Jvm.Cond.selects "SaturProver" ({ cls := "SaturProver", name := "equivalent", desc := "()I" } : Jvm.MethodName) ({ cls := "SaturProver", name := "equivalent", desc := "()I" } : Jvm.MethodName)) ∈ tables_1 := mem1 162 rfl
theorem w164 : (Jvm.Cond.methodLink "SaturProverL6" (39 : Nat) ({ cls := "SaturProver", name := "prove", desc := "()I" } : Jvm.MethodName)) ∈ tables_1 := mem1 164 rfl
theorem w165 : (Jvm.Cond.declares ({ cls := "SaturProver", name := "prove", desc := "()I" } : Jvm.MethodName)) ∈ tables_1 := mem1 165 rfl
theorem w166 : (Jvm.Cond.instanceMethod ({ cls := "SaturProver", name := "prove", desc := "()I" } : Jvm.MethodName)) ∈ tables_1 := mem1 166 rfl
theorem w167 : (Jvm.Cond.selects "SaturProver" ({ cls := "SaturProver", name := "prove", desc := "()I" } : Jvm.MethodName) ({ cls := "SaturProver", name := "prove", desc := "()I" } : Jvm.MethodName)) ∈ tables_1 := mem1 167 rfl
theorem w169 : (Jvm.Cond.constantLong "SaturProver" (129 : Nat) (-1085102592571150096 : Int64)) ∈ tables_1 := mem1 169 rfl
theorem w170 : (Jvm.Cond.methodLink "SaturProver" (72 : Nat) ({ cls := "SaturProver", name := "loadWorkNegatedF", desc := "()V" } : Jvm.MethodName)) ∈ tables_1 := mem1 170 rfl
theorem w171 : (Jvm.Cond.instanceMethod ({ cls := "SaturProver", name := "loadWorkNegatedF", desc := "()V" } : Jvm.MethodName)) ∈ tables_1 := mem1 171 rfl
theorem w172 : (Jvm.Cond.privateMethod ({ cls := "SaturProver", name := "loadWorkNegatedF", desc := "()V" } : Jvm.MethodName)) ∈ tables_1 := mem1 172 rfl
theorem w174 : (Jvm.Cond.constantLong "SaturProver" (116 : Nat) (-1 : Int64)) ∈ tables_1 := mem1 174 rfl
theorem w175 : (Jvm.Cond.methodLink "SaturProver" (75 : Nat) ({ cls := "SaturProver", name := "firstSetInWork", desc := "()I" } : Jvm.MethodName)) ∈ tables_1 := mem1 175 rfl
theorem w176 : (Jvm.Cond.instanceMethod ({ cls := "SaturProver", name := "firstSetInWork", desc := "()I" } : Jvm.MethodName)) ∈ tables_1 := mem1 176 rfl
theorem w177 : (Jvm.Cond.privateMethod ({ cls := "SaturProver", name := "firstSetInWork", desc := "()I" } : Jvm.MethodName)) ∈ tables_1 := mem1 177 rfl
theorem w179 : (Jvm.Cond.methodLink "SaturProver" (137 : Nat) ({ cls := "SaturProver", name := "lowestBit", desc := "(J)I" } : Jvm.MethodName)) ∈ tables_1 := mem1 179 rfl
theorem w180 : (Jvm.Cond.instanceMethod ({ cls := "SaturProver", name := "lowestBit", desc := "(J)I" } : Jvm.MethodName)) ∈ tables_1 := mem1 180 rfl
theorem w181 : (Jvm.Cond.privateMethod ({ cls := "SaturProver", name := "lowestBit", desc := "(J)I" } : Jvm.MethodName)) ∈ tables_1 := mem1 181 rfl
theorem w183 : (Jvm.Cond.methodLink "SaturProver" (79 : Nat) ({ cls := "SaturProver", name := "setResult", desc := "(II)V" } : Jvm.MethodName)) ∈ tables_1 := mem1 183 rfl
theorem w184 : (Jvm.Cond.instanceMethod ({ cls := "SaturProver", name := "setResult", desc := "(II)V" } : Jvm.MethodName)) ∈ tables_1 := mem1 184 rfl
theorem w185 : (Jvm.Cond.privateMethod ({ cls := "SaturProver", name := "setResult", desc := "(II)V" } : Jvm.MethodName)) ∈ tables_1 := mem1 185 rfl
theorem w187 : (Jvm.Cond.methodLink "SaturProverL6" (48 : Nat) ({ cls := "SaturProverL6", name := "allBefore", desc := "(LSaturProver;II)Z" } : Jvm.MethodName)) ∈ tables_1 := mem1 187 rfl
theorem w188 : (Jvm.Cond.static ({ cls := "SaturProverL6", name := "allBefore", desc := "(LSaturProver;II)Z" } : Jvm.MethodName)) ∈ tables_1 := mem1 188 rfl
theorem w190 : (Jvm.Cond.methodLink "SaturProverL6" (9 : Nat) ({ cls := "SaturProver", name := "evaluate", desc := "(I)I" } : Jvm.MethodName)) ∈ tables_1 := mem1 190 rfl
theorem w191 : (Jvm.Cond.declares ({ cls := "SaturProver", name := "evaluate", desc := "(I)I" } : Jvm.MethodName)) ∈ tables_1 := mem1 191 rfl
theorem w192 : (Jvm.Cond.instanceMethod ({ cls := "SaturProver", name := "evaluate", desc := "(I)I" } : Jvm.MethodName)) ∈ tables_1 := mem1 192 rfl
theorem w193 : (Jvm.Cond.selects "SaturProver" ({ cls := "SaturProver", name := "evaluate", desc := "(I)I" } : Jvm.MethodName) ({ cls := "SaturProver", name := "evaluate", desc := "(I)I" } : Jvm.MethodName)) ∈ tables_1 := mem1 193 rfl
theorem w195 : (Jvm.Cond.methodLink "SaturProver" (69 : Nat) ({ cls := "SaturProver", name := "bitOfF", desc := "(I)I" } : Jvm.MethodName)) ∈ tables_1 := mem1 195 rfl
theorem w196 : (Jvm.Cond.instanceMethod ({ cls := "SaturProver", name := "bitOfF", desc := "(I)I" } : Jvm.MethodName)) ∈ tables_1 := mem1 196 rfl
theorem w197 : (Jvm.Cond.privateMethod ({ cls := "SaturProver", name := "bitOfF", desc := "(I)I" } : Jvm.MethodName)) ∈ tables_1 := mem1 197 rfl
theorem w199 : (Jvm.Cond.methodLink "SaturProver" (106 : Nat) ({ cls := "SaturProver", name := "negateSlot", desc := "(I)V" } : Jvm.MethodName)) ∈ tables_1 := mem1 199 rfl
theorem w200 : (Jvm.Cond.instanceMethod ({ cls := "SaturProver", name := "negateSlot", desc := "(I)V" } : Jvm.MethodName)) ∈ tables_1 := mem1 200 rfl
theorem w201 : (Jvm.Cond.privateMethod ({ cls := "SaturProver", name := "negateSlot", desc := "(I)V" } : Jvm.MethodName)) ∈ tables_1 := mem1 201 rfl
theorem w203 : (Jvm.Cond.methodLink "SaturProver" (86 : Nat) ({ cls := "SaturProver", name := "loadWorkDifference", desc := "()V" } : Jvm.MethodName)) ∈ tables_1 := mem1 203 rfl
theorem w204 : (Jvm.Cond.instanceMethod ({ cls := "SaturProver", name := "loadWorkDifference", desc := "()V" } : Jvm.MethodName)) ∈ tables_1 := mem1 204 rfl
theorem w205 : (Jvm.Cond.privateMethod ({ cls := "SaturProver", name := "loadWorkDifference", desc := "()V" } : Jvm.MethodName)) ∈ tables_1 := mem1 205 rfl
theorem w207 : (Jvm.Cond.methodLink "SaturProver" (83 : Nat) ({ cls := "SaturProver", name := "loadWorkF", desc := "()V" } : Jvm.MethodName)) ∈ tables_1 := mem1 207 rfl
theorem w208 : (Jvm.Cond.instanceMethod ({ cls := "SaturProver", name := "loadWorkF", desc := "()V" } : Jvm.MethodName)) ∈ tables_1 := mem1 208 rfl
theorem w209 : (Jvm.Cond.privateMethod ({ cls := "SaturProver", name := "loadWorkF", desc := "()V" } : Jvm.MethodName)) ∈ tables_1 := mem1 209 rfl
theorem w211 : (Jvm.Cond.constantLong "SaturProver" (127 : Nat) (-3689348814741910324 : Int64)) ∈ tables_1 := mem1 211 rfl
theorem w212 : (Jvm.Cond.constantLong "SaturProver" (125 : Nat) (-6148914691236517206 : Int64)) ∈ tables_1 := mem1 212 rfl
theorem w213 : (Jvm.Cond.methodLink "SaturProver" (109 : Nat) ({ cls := "SaturProver", name := "combineSlots", desc := "(II)V" } : Jvm.MethodName)) ∈ tables_1 := mem1 213 rfl
theorem w214 : (Jvm.Cond.instanceMethod ({ cls := "SaturProver", name := "combineSlots", desc := "(II)V" } : Jvm.MethodName)) ∈ tables_1 := mem1 214 rfl
theorem w215 : (Jvm.Cond.privateMethod ({ cls := "SaturProver", name := "combineSlots", desc := "(II)V" } : Jvm.MethodName)) ∈ tables_1 := mem1 215 rfl
theorem w217 : (Jvm.Cond.methodLink "SaturProver" (118 : Nat) ({ cls := "SaturProver", name := "combine", desc := "(IJJ)J" } : Jvm.MethodName)) ∈ tables_1 := mem1 217 rfl
theorem w218 : (Jvm.Cond.instanceMethod ({ cls := "SaturProver", name := "combine", desc := "(IJJ)J" } : Jvm.MethodName)) ∈ tables_1 := mem1 218 rfl
theorem w219 : (Jvm.Cond.privateMethod ({ cls := "SaturProver", name := "combine", desc := "(IJJ)J" } : Jvm.MethodName)) ∈ tables_1 := mem1 219 rfl
theorem w221 : (Jvm.Cond.constantLong "SaturProver" (133 : Nat) (-281470681808896 : Int64)) ∈ tables_1 := mem1 221 rfl
theorem w222 : (Jvm.Cond.constantLong "SaturProver" (131 : Nat) (-71777214294589696 : Int64)) ∈ tables_1 := mem1 222 rfl
theorem fS_0 : K.2.1[0]? = some ("cap", "I") := rfl
theorem fS_1 : K.2.1[1]? = some ("n", "I") := rfl
theorem fS_2 : K.2.1[2]? = some ("dep", "I") := rfl
theorem fS_3 : K.2.1[3]? = some ("sn", "I") := rfl
theorem fS_4 : K.2.1[4]? = some ("hasSaved", "Z") := rfl
theorem fS_5 : K.2.1[5]? = some ("res", "I") := rfl
theorem fS_6 : K.2.1[6]? = some ("wit", "I") := rfl
theorem fS_7 : K.2.1[7]? = some ("fValid", "Z") := rfl
theorem fA_0 : K.2.2[0]? = some ("toks", .int, (32 : Int32)) := rfl
theorem fA_1 : K.2.2[1]? = some ("saved", .int, (32 : Int32)) := rfl
theorem fA_2 : K.2.2[2]? = some ("stk", .long, (128 : Int32)) := rfl
theorem fA_3 : K.2.2[3]? = some ("tabF", .long, (4 : Int32)) := rfl
theorem fA_4 : K.2.2[4]? = some ("tabS", .long, (4 : Int32)) := rfl
theorem fA_5 : K.2.2[5]? = some ("work", .long, (4 : Int32)) := rfl
theorem cb_m6 : (Int8.ofInt (-6)).toInt32 = (-6 : Int32) := by decide
theorem cb_m5 : (Int8.ofInt (-5)).toInt32 = (-5 : Int32) := by decide
theorem cb_m4 : (Int8.ofInt (-4)).toInt32 = (-4 : Int32) := by decide
theorem cb_m3 : (Int8.ofInt (-3)).toInt32 = (-3 : Int32) := by decide
theorem cb_m2 : (Int8.ofInt (-2)).toInt32 = (-2 : Int32) := by decide
theorem cb_6 : (Int8.ofInt 6).toInt32 = (6 : Int32) := by decide
theorem cb_7 : (Int8.ofInt 7).toInt32 = (7 : Int32) := by decide
theorem cb_8 : (Int8.ofInt 8).toInt32 = (8 : Int32) := by decide
theorem cb_9 : (Int8.ofInt 9).toInt32 = (9 : Int32) := by decide
theorem cb_10 : (Int8.ofInt 10).toInt32 = (10 : Int32) := by decide
theorem cb_12 : (Int8.ofInt 12).toInt32 = (12 : Int32) := by decide
theorem cb_14 : (Int8.ofInt 14).toInt32 = (14 : Int32) := by decide
theorem cb_15 : (Int8.ofInt 15).toInt32 = (15 : Int32) := by decide
theorem cb_17 : (Int8.ofInt 17).toInt32 = (17 : Int32) := by decide
theorem cb_32 : (Int8.ofInt 32).toInt32 = (32 : Int32) := by decide
theorem cb_63 : (Int8.ofInt 63).toInt32 = (63 : Int32) := by decide
theorem cb_64 : (Int8.ofInt 64).toInt32 = (64 : Int32) := by decide
theorem ci_m1 : Int32.ofInt (-1) = (-1 : Int32) := by decide
theorem ci_0 : Int32.ofInt 0 = (0 : Int32) := by decide
theorem ci_1 : Int32.ofInt 1 = (1 : Int32) := by decide
theorem ci_2 : Int32.ofInt 2 = (2 : Int32) := by decide
theorem ci_3 : Int32.ofInt 3 = (3 : Int32) := by decide
theorem ci_4 : Int32.ofInt 4 = (4 : Int32) := by decide
theorem ci_5 : Int32.ofInt 5 = (5 : Int32) := by decide
theorem cl_0 : Int64.ofNat (0 : Fin 2) = (0 : Int64) := by decide
theorem cl_1 : Int64.ofNat (1 : Fin 2) = (1 : Int64) := by decide
theorem cs_128 : (Int16.ofInt 128).toInt32 = (128 : Int32) := by decide
theorem cs_255 : (Int16.ofInt 255).toInt32 = (255 : Int32) := by decide
theorem cs_256 : (Int16.ofInt 256).toInt32 = (256 : Int32) := by decide
def B2 : Bdy := ((⟨"SaturProver", "resetResult", "()V"⟩ : MethodName), prog_1_method_19_code, 1, none, ({ frames := 0, cells := 0, slots := 0, locals := 0 } : Room))
theorem d2_0 : DAt B2 0 (.aload_n 0) 1 1 := ⟨by decide +kernel, rfl⟩
theorem d2_1 : DAt B2 1 (.iconst 0) 1 2 := ⟨by decide +kernel, rfl⟩
theorem d2_2 : DAt B2 2 (.putfield 89) 3 5 := ⟨by decide +kernel, rfl⟩
theorem d2_5 : DAt B2 5 (.aload_n 0) 1 6 := ⟨by decide +kernel, rfl⟩
theorem d2_6 : DAt B2 6 (.iconst (-1)) 1 7 := ⟨by decide +kernel, rfl⟩
theorem d2_7 : DAt B2 7 (.putfield 92) 3 10 := ⟨by decide +kernel, rfl⟩
theorem d2_10 : DAt B2 10 (.return_) 1 11 := ⟨by decide +kernel, rfl⟩
def B1 : Bdy := ((⟨"SaturProver", "<init>", "(I)V"⟩ : MethodName), prog_1_method_1_code, 3, none, ({ frames := 1, cells := 6, slots := 204, locals := 12 } : Room))
theorem d1_0 : DAt B1 0 (.aload_n 0) 1 1 := ⟨by decide +kernel, rfl⟩
theorem d1_1 : DAt B1 1 (.invokespecial 1) 3 4 := ⟨by decide +kernel, rfl⟩
theorem d1_4 : DAt B1 4 (.aload_n 0) 1 5 := ⟨by decide +kernel, rfl⟩
theorem d1_5 : DAt B1 5 (.bipush 32) 2 7 := ⟨by decide +kernel, rfl⟩
theorem d1_7 : DAt B1 7 (.newarray .int) 2 9 := ⟨by decide +kernel, rfl⟩
theorem d1_9 : DAt B1 9 (.putfield 7) 3 12 := ⟨by decide +kernel, rfl⟩
theorem d1_12 : DAt B1 12 (.aload_n 0) 1 13 := ⟨by decide +kernel, rfl⟩
theorem d1_13 : DAt B1 13 (.bipush 32) 2 15 := ⟨by decide +kernel, rfl⟩
theorem d1_15 : DAt B1 15 (.newarray .int) 2 17 := ⟨by decide +kernel, rfl⟩
theorem d1_17 : DAt B1 17 (.putfield 13) 3 20 := ⟨by decide +kernel, rfl⟩
theorem d1_20 : DAt B1 20 (.aload_n 0) 1 21 := ⟨by decide +kernel, rfl⟩
theorem d1_21 : DAt B1 21 (.sipush 128) 3 24 := ⟨by decide +kernel, rfl⟩
theorem d1_24 : DAt B1 24 (.newarray .long) 2 26 := ⟨by decide +kernel, rfl⟩
theorem d1_26 : DAt B1 26 (.putfield 16) 3 29 := ⟨by decide +kernel, rfl⟩
theorem d1_29 : DAt B1 29 (.aload_n 0) 1 30 := ⟨by decide +kernel, rfl⟩
theorem d1_30 : DAt B1 30 (.iconst 4) 1 31 := ⟨by decide +kernel, rfl⟩
theorem d1_31 : DAt B1 31 (.newarray .long) 2 33 := ⟨by decide +kernel, rfl⟩
theorem d1_33 : DAt B1 33 (.putfield 20) 3 36 := ⟨by decide +kernel, rfl⟩
theorem d1_36 : DAt B1 36 (.aload_n 0) 1 37 := ⟨by decide +kernel, rfl⟩
theorem d1_37 : DAt B1 37 (.iconst 4) 1 38 := ⟨by decide +kernel, rfl⟩
theorem d1_38 : DAt B1 38 (.newarray .long) 2 40 := ⟨by decide +kernel, rfl⟩
theorem d1_40 : DAt B1 40 (.putfield 23) 3 43 := ⟨by decide +kernel, rfl⟩
theorem d1_43 : DAt B1 43 (.aload_n 0) 1 44 := ⟨by decide +kernel, rfl⟩
theorem d1_44 : DAt B1 44 (.iconst 4) 1 45 := ⟨by decide +kernel, rfl⟩
theorem d1_45 : DAt B1 45 (.newarray .long) 2 47 := ⟨by decide +kernel, rfl⟩
theorem d1_47 : DAt B1 47 (.putfield 26) 3 50 := ⟨by decide +kernel, rfl⟩
theorem d1_50 : DAt B1 50 (.iload_n 1) 1 51 := ⟨by decide +kernel, rfl⟩
theorem d1_51 : DAt B1 51 (.istore_n 2) 1 52 := ⟨by decide +kernel, rfl⟩
theorem d1_52 : DAt B1 52 (.iload_n 2) 1 53 := ⟨by decide +kernel, rfl⟩
theorem d1_53 : DAt B1 53 (.bipush 8) 2 55 := ⟨by decide +kernel, rfl⟩
theorem d1_55 : DAt B1 55 (.if_icmp .ge 6) 3 58 := ⟨by decide +kernel, rfl⟩
theorem d1_58 : DAt B1 58 (.bipush 8) 2 60 := ⟨by decide +kernel, rfl⟩
theorem d1_60 : DAt B1 60 (.istore_n 2) 1 61 := ⟨by decide +kernel, rfl⟩
theorem d1_61 : DAt B1 61 (.iload_n 2) 1 62 := ⟨by decide +kernel, rfl⟩
theorem d1_62 : DAt B1 62 (.bipush 32) 2 64 := ⟨by decide +kernel, rfl⟩
theorem d1_64 : DAt B1 64 (.if_icmp .le 6) 3 67 := ⟨by decide +kernel, rfl⟩
theorem d1_67 : DAt B1 67 (.bipush 32) 2 69 := ⟨by decide +kernel, rfl⟩
theorem d1_69 : DAt B1 69 (.istore_n 2) 1 70 := ⟨by decide +kernel, rfl⟩
theorem d1_70 : DAt B1 70 (.aload_n 0) 1 71 := ⟨by decide +kernel, rfl⟩
theorem d1_71 : DAt B1 71 (.iload_n 2) 1 72 := ⟨by decide +kernel, rfl⟩
theorem d1_72 : DAt B1 72 (.putfield 29) 3 75 := ⟨by decide +kernel, rfl⟩
theorem d1_75 : DAt B1 75 (.aload_n 0) 1 76 := ⟨by decide +kernel, rfl⟩
theorem d1_76 : DAt B1 76 (.iconst 0) 1 77 := ⟨by decide +kernel, rfl⟩
theorem d1_77 : DAt B1 77 (.putfield 33) 3 80 := ⟨by decide +kernel, rfl⟩
theorem d1_80 : DAt B1 80 (.aload_n 0) 1 81 := ⟨by decide +kernel, rfl⟩
theorem d1_81 : DAt B1 81 (.iconst 0) 1 82 := ⟨by decide +kernel, rfl⟩
theorem d1_82 : DAt B1 82 (.putfield 36) 3 85 := ⟨by decide +kernel, rfl⟩
theorem d1_85 : DAt B1 85 (.aload_n 0) 1 86 := ⟨by decide +kernel, rfl⟩
theorem d1_86 : DAt B1 86 (.iconst 0) 1 87 := ⟨by decide +kernel, rfl⟩
theorem d1_87 : DAt B1 87 (.putfield 39) 3 90 := ⟨by decide +kernel, rfl⟩
theorem d1_90 : DAt B1 90 (.aload_n 0) 1 91 := ⟨by decide +kernel, rfl⟩
theorem d1_91 : DAt B1 91 (.iconst 0) 1 92 := ⟨by decide +kernel, rfl⟩
theorem d1_92 : DAt B1 92 (.putfield 42) 3 95 := ⟨by decide +kernel, rfl⟩
theorem d1_95 : DAt B1 95 (.aload_n 0) 1 96 := ⟨by decide +kernel, rfl⟩
theorem d1_96 : DAt B1 96 (.iconst 0) 1 97 := ⟨by decide +kernel, rfl⟩
theorem d1_97 : DAt B1 97 (.putfield 46) 3 100 := ⟨by decide +kernel, rfl⟩
theorem d1_100 : DAt B1 100 (.aload_n 0) 1 101 := ⟨by decide +kernel, rfl⟩
theorem d1_101 : DAt B1 101 (.invokevirtual 49) 3 104 := ⟨by decide +kernel, rfl⟩
theorem d1_104 : DAt B1 104 (.return_) 1 105 := ⟨by decide +kernel, rfl⟩
def B4 : Bdy := ((⟨"SaturProver", "arity", "(I)I"⟩ : MethodName), prog_1_method_21_code, 2, (some .int), ({ frames := 0, cells := 0, slots := 0, locals := 0 } : Room))
theorem d4_0 : DAt B4 0 (.iload_n 1) 1 1 := ⟨by decide +kernel, rfl⟩
theorem d4_1 : DAt B4 1 (.bipush 9) 2 3 := ⟨by decide +kernel, rfl⟩
theorem d4_3 : DAt B4 3 (.if_icmp .gt 5) 3 6 := ⟨by decide +kernel, rfl⟩
theorem d4_6 : DAt B4 6 (.iconst 0) 1 7 := ⟨by decide +kernel, rfl⟩
theorem d4_7 : DAt B4 7 (.ireturn) 1 8 := ⟨by decide +kernel, rfl⟩
theorem d4_8 : DAt B4 8 (.iload_n 1) 1 9 := ⟨by decide +kernel, rfl⟩
theorem d4_9 : DAt B4 9 (.bipush 10) 2 11 := ⟨by decide +kernel, rfl⟩
theorem d4_11 : DAt B4 11 (.if_icmp .ne 5) 3 14 := ⟨by decide +kernel, rfl⟩
theorem d4_14 : DAt B4 14 (.iconst 1) 1 15 := ⟨by decide +kernel, rfl⟩
theorem d4_15 : DAt B4 15 (.ireturn) 1 16 := ⟨by decide +kernel, rfl⟩
theorem d4_16 : DAt B4 16 (.iconst 2) 1 17 := ⟨by decide +kernel, rfl⟩
theorem d4_17 : DAt B4 17 (.ireturn) 1 18 := ⟨by decide +kernel, rfl⟩
def B3 : Bdy := ((⟨"SaturProver", "pushToken", "(I)I"⟩ : MethodName), prog_1_method_2_code, 3, (some .int), ({ frames := 1, cells := 0, slots := 0, locals := 13 } : Room))
theorem d3_0 : DAt B3 0 (.iload_n 1) 1 1 := ⟨by decide +kernel, rfl⟩
theorem d3_1 : DAt B3 1 (.ifCond .lt 9) 3 4 := ⟨by decide +kernel, rfl⟩
theorem d3_4 : DAt B3 4 (.iload_n 1) 1 5 := ⟨by decide +kernel, rfl⟩
theorem d3_5 : DAt B3 5 (.bipush 15) 2 7 := ⟨by decide +kernel, rfl⟩
theorem d3_7 : DAt B3 7 (.if_icmp .le 5) 3 10 := ⟨by decide +kernel, rfl⟩
theorem d3_10 : DAt B3 10 (.iconst (-1)) 1 11 := ⟨by decide +kernel, rfl⟩
theorem d3_11 : DAt B3 11 (.ireturn) 1 12 := ⟨by decide +kernel, rfl⟩
theorem d3_12 : DAt B3 12 (.aload_n 0) 1 13 := ⟨by decide +kernel, rfl⟩
theorem d3_13 : DAt B3 13 (.getfield 33) 3 16 := ⟨by decide +kernel, rfl⟩
theorem d3_16 : DAt B3 16 (.aload_n 0) 1 17 := ⟨by decide +kernel, rfl⟩
theorem d3_17 : DAt B3 17 (.getfield 29) 3 20 := ⟨by decide +kernel, rfl⟩
theorem d3_20 : DAt B3 20 (.if_icmp .lt 6) 3 23 := ⟨by decide +kernel, rfl⟩
theorem d3_23 : DAt B3 23 (.bipush (-2)) 2 25 := ⟨by decide +kernel, rfl⟩
theorem d3_25 : DAt B3 25 (.ireturn) 1 26 := ⟨by decide +kernel, rfl⟩
theorem d3_26 : DAt B3 26 (.aload_n 0) 1 27 := ⟨by decide +kernel, rfl⟩
theorem d3_27 : DAt B3 27 (.iload_n 1) 1 28 := ⟨by decide +kernel, rfl⟩
theorem d3_28 : DAt B3 28 (.invokevirtual 52) 3 31 := ⟨by decide +kernel, rfl⟩
theorem d3_31 : DAt B3 31 (.istore_n 2) 1 32 := ⟨by decide +kernel, rfl⟩
theorem d3_32 : DAt B3 32 (.iload_n 2) 1 33 := ⟨by decide +kernel, rfl⟩
theorem d3_33 : DAt B3 33 (.aload_n 0) 1 34 := ⟨by decide +kernel, rfl⟩
theorem d3_34 : DAt B3 34 (.getfield 36) 3 37 := ⟨by decide +kernel, rfl⟩
theorem d3_37 : DAt B3 37 (.if_icmp .le 6) 3 40 := ⟨by decide +kernel, rfl⟩
theorem d3_40 : DAt B3 40 (.bipush (-3)) 2 42 := ⟨by decide +kernel, rfl⟩
theorem d3_42 : DAt B3 42 (.ireturn) 1 43 := ⟨by decide +kernel, rfl⟩
theorem d3_43 : DAt B3 43 (.aload_n 0) 1 44 := ⟨by decide +kernel, rfl⟩
theorem d3_44 : DAt B3 44 (.getfield 7) 3 47 := ⟨by decide +kernel, rfl⟩
theorem d3_47 : DAt B3 47 (.aload_n 0) 1 48 := ⟨by decide +kernel, rfl⟩
theorem d3_48 : DAt B3 48 (.getfield 33) 3 51 := ⟨by decide +kernel, rfl⟩
theorem d3_51 : DAt B3 51 (.iload_n 1) 1 52 := ⟨by decide +kernel, rfl⟩
theorem d3_52 : DAt B3 52 (.iastore) 1 53 := ⟨by decide +kernel, rfl⟩
theorem d3_53 : DAt B3 53 (.aload_n 0) 1 54 := ⟨by decide +kernel, rfl⟩
theorem d3_54 : DAt B3 54 (.aload_n 0) 1 55 := ⟨by decide +kernel, rfl⟩
theorem d3_55 : DAt B3 55 (.getfield 33) 3 58 := ⟨by decide +kernel, rfl⟩
theorem d3_58 : DAt B3 58 (.iconst 1) 1 59 := ⟨by decide +kernel, rfl⟩
theorem d3_59 : DAt B3 59 (.iadd) 1 60 := ⟨by decide +kernel, rfl⟩
theorem d3_60 : DAt B3 60 (.putfield 33) 3 63 := ⟨by decide +kernel, rfl⟩
theorem d3_63 : DAt B3 63 (.aload_n 0) 1 64 := ⟨by decide +kernel, rfl⟩
theorem d3_64 : DAt B3 64 (.aload_n 0) 1 65 := ⟨by decide +kernel, rfl⟩
theorem d3_65 : DAt B3 65 (.getfield 36) 3 68 := ⟨by decide +kernel, rfl⟩
theorem d3_68 : DAt B3 68 (.iconst 1) 1 69 := ⟨by decide +kernel, rfl⟩
theorem d3_69 : DAt B3 69 (.iadd) 1 70 := ⟨by decide +kernel, rfl⟩
theorem d3_70 : DAt B3 70 (.iload_n 2) 1 71 := ⟨by decide +kernel, rfl⟩
theorem d3_71 : DAt B3 71 (.isub) 1 72 := ⟨by decide +kernel, rfl⟩
theorem d3_72 : DAt B3 72 (.putfield 36) 3 75 := ⟨by decide +kernel, rfl⟩
theorem d3_75 : DAt B3 75 (.aload_n 0) 1 76 := ⟨by decide +kernel, rfl⟩
theorem d3_76 : DAt B3 76 (.iconst 0) 1 77 := ⟨by decide +kernel, rfl⟩
theorem d3_77 : DAt B3 77 (.putfield 46) 3 80 := ⟨by decide +kernel, rfl⟩
theorem d3_80 : DAt B3 80 (.aload_n 0) 1 81 := ⟨by decide +kernel, rfl⟩
theorem d3_81 : DAt B3 81 (.invokevirtual 49) 3 84 := ⟨by decide +kernel, rfl⟩
theorem d3_84 : DAt B3 84 (.iconst 0) 1 85 := ⟨by decide +kernel, rfl⟩
theorem d3_85 : DAt B3 85 (.ireturn) 1 86 := ⟨by decide +kernel, rfl⟩
def B5 : Bdy := ((⟨"SaturProverL6", "ar", "(I)I"⟩ : MethodName), method_2_code, 1, (some .int), ({ frames := 0, cells := 0, slots := 0, locals := 0 } : Room))
theorem d5_0 : DAt B5 0 (.iload_n 0) 1 1 := ⟨by decide +kernel, rfl⟩
theorem d5_1 : DAt B5 1 (.bipush 10) 2 3 := ⟨by decide +kernel, rfl⟩
theorem d5_3 : DAt B5 3 (.if_icmp .ge 7) 3 6 := ⟨by decide +kernel, rfl⟩
theorem d5_6 : DAt B5 6 (.iconst 0) 1 7 := ⟨by decide +kernel, rfl⟩
theorem d5_7 : DAt B5 7 (.goto 14) 3 10 := ⟨by decide +kernel, rfl⟩
theorem d5_10 : DAt B5 10 (.iload_n 0) 1 11 := ⟨by decide +kernel, rfl⟩
theorem d5_11 : DAt B5 11 (.bipush 10) 2 13 := ⟨by decide +kernel, rfl⟩
theorem d5_13 : DAt B5 13 (.if_icmp .ne 7) 3 16 := ⟨by decide +kernel, rfl⟩
theorem d5_16 : DAt B5 16 (.iconst 1) 1 17 := ⟨by decide +kernel, rfl⟩
theorem d5_17 : DAt B5 17 (.goto 4) 3 20 := ⟨by decide +kernel, rfl⟩
theorem d5_20 : DAt B5 20 (.iconst 2) 1 21 := ⟨by decide +kernel, rfl⟩
theorem d5_21 : DAt B5 21 (.ireturn) 1 22 := ⟨by decide +kernel, rfl⟩
def B17 : Bdy := ((⟨"SaturProver", "removeLast", "()I"⟩ : MethodName), prog_1_method_3_code, 2, (some .int), ({ frames := 1, cells := 0, slots := 0, locals := 16 } : Room))
theorem d17_0 : DAt B17 0 (.aload_n 0) 1 1 := ⟨by decide +kernel, rfl⟩
theorem d17_1 : DAt B17 1 (.getfield 33) 3 4 := ⟨by decide +kernel, rfl⟩
theorem d17_4 : DAt B17 4 (.ifCond .gt 6) 3 7 := ⟨by decide +kernel, rfl⟩
theorem d17_7 : DAt B17 7 (.bipush (-4)) 2 9 := ⟨by decide +kernel, rfl⟩
theorem d17_9 : DAt B17 9 (.ireturn) 1 10 := ⟨by decide +kernel, rfl⟩
theorem d17_10 : DAt B17 10 (.aload_n 0) 1 11 := ⟨by decide +kernel, rfl⟩
theorem d17_11 : DAt B17 11 (.getfield 7) 3 14 := ⟨by decide +kernel, rfl⟩
theorem d17_14 : DAt B17 14 (.aload_n 0) 1 15 := ⟨by decide +kernel, rfl⟩
theorem d17_15 : DAt B17 15 (.getfield 33) 3 18 := ⟨by decide +kernel, rfl⟩
theorem d17_18 : DAt B17 18 (.iconst 1) 1 19 := ⟨by decide +kernel, rfl⟩
theorem d17_19 : DAt B17 19 (.isub) 1 20 := ⟨by decide +kernel, rfl⟩
theorem d17_20 : DAt B17 20 (.iaload) 1 21 := ⟨by decide +kernel, rfl⟩
theorem d17_21 : DAt B17 21 (.istore_n 1) 1 22 := ⟨by decide +kernel, rfl⟩
theorem d17_22 : DAt B17 22 (.aload_n 0) 1 23 := ⟨by decide +kernel, rfl⟩
theorem d17_23 : DAt B17 23 (.aload_n 0) 1 24 := ⟨by decide +kernel, rfl⟩
theorem d17_24 : DAt B17 24 (.getfield 36) 3 27 := ⟨by decide +kernel, rfl⟩
theorem d17_27 : DAt B17 27 (.iconst 1) 1 28 := ⟨by decide +kernel, rfl⟩
theorem d17_28 : DAt B17 28 (.aload_n 0) 1 29 := ⟨by decide +kernel, rfl⟩
theorem d17_29 : DAt B17 29 (.iload_n 1) 1 30 := ⟨by decide +kernel, rfl⟩
theorem d17_30 : DAt B17 30 (.invokevirtual 52) 3 33 := ⟨by decide +kernel, rfl⟩
theorem d17_33 : DAt B17 33 (.isub) 1 34 := ⟨by decide +kernel, rfl⟩
theorem d17_34 : DAt B17 34 (.isub) 1 35 := ⟨by decide +kernel, rfl⟩
theorem d17_35 : DAt B17 35 (.putfield 36) 3 38 := ⟨by decide +kernel, rfl⟩
theorem d17_38 : DAt B17 38 (.aload_n 0) 1 39 := ⟨by decide +kernel, rfl⟩
theorem d17_39 : DAt B17 39 (.aload_n 0) 1 40 := ⟨by decide +kernel, rfl⟩
theorem d17_40 : DAt B17 40 (.getfield 33) 3 43 := ⟨by decide +kernel, rfl⟩
theorem d17_43 : DAt B17 43 (.iconst 1) 1 44 := ⟨by decide +kernel, rfl⟩
theorem d17_44 : DAt B17 44 (.isub) 1 45 := ⟨by decide +kernel, rfl⟩
theorem d17_45 : DAt B17 45 (.putfield 33) 3 48 := ⟨by decide +kernel, rfl⟩
theorem d17_48 : DAt B17 48 (.aload_n 0) 1 49 := ⟨by decide +kernel, rfl⟩
theorem d17_49 : DAt B17 49 (.iconst 0) 1 50 := ⟨by decide +kernel, rfl⟩
theorem d17_50 : DAt B17 50 (.putfield 46) 3 53 := ⟨by decide +kernel, rfl⟩
theorem d17_53 : DAt B17 53 (.aload_n 0) 1 54 := ⟨by decide +kernel, rfl⟩
theorem d17_54 : DAt B17 54 (.invokevirtual 49) 3 57 := ⟨by decide +kernel, rfl⟩
theorem d17_57 : DAt B17 57 (.iconst 0) 1 58 := ⟨by decide +kernel, rfl⟩
theorem d17_58 : DAt B17 58 (.ireturn) 1 59 := ⟨by decide +kernel, rfl⟩
def B16 : Bdy := ((⟨"SaturProver", "clear", "()V"⟩ : MethodName), prog_1_method_4_code, 1, none, ({ frames := 1, cells := 0, slots := 0, locals := 12 } : Room))
theorem d16_0 : DAt B16 0 (.aload_n 0) 1 1 := ⟨by decide +kernel, rfl⟩
theorem d16_1 : DAt B16 1 (.iconst 0) 1 2 := ⟨by decide +kernel, rfl⟩
theorem d16_2 : DAt B16 2 (.putfield 33) 3 5 := ⟨by decide +kernel, rfl⟩
theorem d16_5 : DAt B16 5 (.aload_n 0) 1 6 := ⟨by decide +kernel, rfl⟩
theorem d16_6 : DAt B16 6 (.iconst 0) 1 7 := ⟨by decide +kernel, rfl⟩
theorem d16_7 : DAt B16 7 (.putfield 36) 3 10 := ⟨by decide +kernel, rfl⟩
theorem d16_10 : DAt B16 10 (.aload_n 0) 1 11 := ⟨by decide +kernel, rfl⟩
theorem d16_11 : DAt B16 11 (.iconst 0) 1 12 := ⟨by decide +kernel, rfl⟩
theorem d16_12 : DAt B16 12 (.putfield 46) 3 15 := ⟨by decide +kernel, rfl⟩
theorem d16_15 : DAt B16 15 (.aload_n 0) 1 16 := ⟨by decide +kernel, rfl⟩
theorem d16_16 : DAt B16 16 (.invokevirtual 49) 3 19 := ⟨by decide +kernel, rfl⟩
theorem d16_19 : DAt B16 19 (.return_) 1 20 := ⟨by decide +kernel, rfl⟩
def B9 : Bdy := ((⟨"SaturProver", "completeF", "()Z"⟩ : MethodName), prog_1_method_18_code, 1, (some .boolean), ({ frames := 0, cells := 0, slots := 0, locals := 0 } : Room))
theorem d9_0 : DAt B9 0 (.aload_n 0) 1 1 := ⟨by decide +kernel, rfl⟩
theorem d9_1 : DAt B9 1 (.getfield 36) 3 4 := ⟨by decide +kernel, rfl⟩
theorem d9_4 : DAt B9 4 (.iconst 1) 1 5 := ⟨by decide +kernel, rfl⟩
theorem d9_5 : DAt B9 5 (.if_icmp .ne 7) 3 8 := ⟨by decide +kernel, rfl⟩
theorem d9_8 : DAt B9 8 (.iconst 1) 1 9 := ⟨by decide +kernel, rfl⟩
theorem d9_9 : DAt B9 9 (.goto 4) 3 12 := ⟨by decide +kernel, rfl⟩
theorem d9_12 : DAt B9 12 (.iconst 0) 1 13 := ⟨by decide +kernel, rfl⟩
theorem d9_13 : DAt B9 13 (.ireturn) 1 14 := ⟨by decide +kernel, rfl⟩
def B20 : Bdy := ((⟨"SaturProver", "copyTokensToSaved", "()V"⟩ : MethodName), prog_1_method_22_code, 3, none, ({ frames := 0, cells := 0, slots := 0, locals := 0 } : Room))
theorem d20_0 : DAt B20 0 (.aload_n 0) 1 1 := ⟨by decide +kernel, rfl⟩
theorem d20_1 : DAt B20 1 (.getfield 33) 3 4 := ⟨by decide +kernel, rfl⟩
theorem d20_4 : DAt B20 4 (.istore_n 1) 1 5 := ⟨by decide +kernel, rfl⟩
theorem d20_5 : DAt B20 5 (.iload_n 1) 1 6 := ⟨by decide +kernel, rfl⟩
theorem d20_6 : DAt B20 6 (.bipush 32) 2 8 := ⟨by decide +kernel, rfl⟩
theorem d20_8 : DAt B20 8 (.if_icmp .le 6) 3 11 := ⟨by decide +kernel, rfl⟩
theorem d20_11 : DAt B20 11 (.bipush 32) 2 13 := ⟨by decide +kernel, rfl⟩
theorem d20_13 : DAt B20 13 (.istore_n 1) 1 14 := ⟨by decide +kernel, rfl⟩
theorem d20_14 : DAt B20 14 (.iconst 0) 1 15 := ⟨by decide +kernel, rfl⟩
theorem d20_15 : DAt B20 15 (.istore_n 2) 1 16 := ⟨by decide +kernel, rfl⟩
theorem d20_16 : DAt B20 16 (.iload_n 2) 1 17 := ⟨by decide +kernel, rfl⟩
theorem d20_17 : DAt B20 17 (.iload_n 1) 1 18 := ⟨by decide +kernel, rfl⟩
theorem d20_18 : DAt B20 18 (.if_icmp .ge 21) 3 21 := ⟨by decide +kernel, rfl⟩
theorem d20_21 : DAt B20 21 (.aload_n 0) 1 22 := ⟨by decide +kernel, rfl⟩
theorem d20_22 : DAt B20 22 (.getfield 13) 3 25 := ⟨by decide +kernel, rfl⟩
theorem d20_25 : DAt B20 25 (.iload_n 2) 1 26 := ⟨by decide +kernel, rfl⟩
theorem d20_26 : DAt B20 26 (.aload_n 0) 1 27 := ⟨by decide +kernel, rfl⟩
theorem d20_27 : DAt B20 27 (.getfield 7) 3 30 := ⟨by decide +kernel, rfl⟩
theorem d20_30 : DAt B20 30 (.iload_n 2) 1 31 := ⟨by decide +kernel, rfl⟩
theorem d20_31 : DAt B20 31 (.iaload) 1 32 := ⟨by decide +kernel, rfl⟩
theorem d20_32 : DAt B20 32 (.iastore) 1 33 := ⟨by decide +kernel, rfl⟩
theorem d20_33 : DAt B20 33 (.iinc 2 1) 3 36 := ⟨by decide +kernel, rfl⟩
theorem d20_36 : DAt B20 36 (.goto (-20)) 3 39 := ⟨by decide +kernel, rfl⟩
theorem d20_39 : DAt B20 39 (.aload_n 0) 1 40 := ⟨by decide +kernel, rfl⟩
theorem d20_40 : DAt B20 40 (.iload_n 1) 1 41 := ⟨by decide +kernel, rfl⟩
theorem d20_41 : DAt B20 41 (.putfield 39) 3 44 := ⟨by decide +kernel, rfl⟩
theorem d20_44 : DAt B20 44 (.return_) 1 45 := ⟨by decide +kernel, rfl⟩
def B25 : Bdy := ((⟨"SaturProver", "varWord", "(II)J"⟩ : MethodName), prog_1_method_32_code, 3, (some .long), ({ frames := 0, cells := 0, slots := 0, locals := 0 } : Room))
theorem d25_0 : DAt B25 0 (.iload_n 1) 1 1 := ⟨by decide +kernel, rfl⟩
theorem d25_1 : DAt B25 1 (.tableswitch 81 0 6 #[43, 47, 51, 55, 59, 63, 67]) 43 44 := ⟨by decide +kernel, rfl⟩
theorem d25_44 : DAt B25 44 (.ldc2_w 125) 3 47 := ⟨by decide +kernel, rfl⟩
theorem d25_47 : DAt B25 47 (.lreturn) 1 48 := ⟨by decide +kernel, rfl⟩
theorem d25_48 : DAt B25 48 (.ldc2_w 127) 3 51 := ⟨by decide +kernel, rfl⟩
theorem d25_51 : DAt B25 51 (.lreturn) 1 52 := ⟨by decide +kernel, rfl⟩
theorem d25_52 : DAt B25 52 (.ldc2_w 129) 3 55 := ⟨by decide +kernel, rfl⟩
theorem d25_55 : DAt B25 55 (.lreturn) 1 56 := ⟨by decide +kernel, rfl⟩
theorem d25_56 : DAt B25 56 (.ldc2_w 131) 3 59 := ⟨by decide +kernel, rfl⟩
theorem d25_59 : DAt B25 59 (.lreturn) 1 60 := ⟨by decide +kernel, rfl⟩
theorem d25_60 : DAt B25 60 (.ldc2_w 133) 3 63 := ⟨by decide +kernel, rfl⟩
theorem d25_63 : DAt B25 63 (.lreturn) 1 64 := ⟨by decide +kernel, rfl⟩
theorem d25_64 : DAt B25 64 (.ldc2_w 135) 3 67 := ⟨by decide +kernel, rfl⟩
theorem d25_67 : DAt B25 67 (.lreturn) 1 68 := ⟨by decide +kernel, rfl⟩
theorem d25_68 : DAt B25 68 (.iload_n 2) 1 69 := ⟨by decide +kernel, rfl⟩
theorem d25_69 : DAt B25 69 (.iconst 1) 1 70 := ⟨by decide +kernel, rfl⟩
theorem d25_70 : DAt B25 70 (.iand) 1 71 := ⟨by decide +kernel, rfl⟩
theorem d25_71 : DAt B25 71 (.ifCond .eq 9) 3 74 := ⟨by decide +kernel, rfl⟩
theorem d25_74 : DAt B25 74 (.ldc2_w 116) 3 77 := ⟨by decide +kernel, rfl⟩
theorem d25_77 : DAt B25 77 (.goto 4) 3 80 := ⟨by decide +kernel, rfl⟩
theorem d25_80 : DAt B25 80 (.lconst 0) 1 81 := ⟨by decide +kernel, rfl⟩
theorem d25_81 : DAt B25 81 (.lreturn) 1 82 := ⟨by decide +kernel, rfl⟩
theorem d25_82 : DAt B25 82 (.iload_n 2) 1 83 := ⟨by decide +kernel, rfl⟩
theorem d25_83 : DAt B25 83 (.iconst 2) 1 84 := ⟨by decide +kernel, rfl⟩
theorem d25_84 : DAt B25 84 (.iand) 1 85 := ⟨by decide +kernel, rfl⟩
theorem d25_85 : DAt B25 85 (.ifCond .eq 9) 3 88 := ⟨by decide +kernel, rfl⟩
theorem d25_88 : DAt B25 88 (.ldc2_w 116) 3 91 := ⟨by decide +kernel, rfl⟩
theorem d25_91 : DAt B25 91 (.goto 4) 3 94 := ⟨by decide +kernel, rfl⟩
theorem d25_94 : DAt B25 94 (.lconst 0) 1 95 := ⟨by decide +kernel, rfl⟩
theorem d25_95 : DAt B25 95 (.lreturn) 1 96 := ⟨by decide +kernel, rfl⟩
def B24 : Bdy := ((⟨"SaturProver", "leafWord", "(II)J"⟩ : MethodName), prog_1_method_31_code, 3, (some .long), ({ frames := 1, cells := 0, slots := 0, locals := 14 } : Room))
theorem d24_0 : DAt B24 0 (.iload_n 1) 1 1 := ⟨by decide +kernel, rfl⟩
theorem d24_1 : DAt B24 1 (.bipush 8) 2 3 := ⟨by decide +kernel, rfl⟩
theorem d24_3 : DAt B24 3 (.if_icmp .ne 5) 3 6 := ⟨by decide +kernel, rfl⟩
theorem d24_6 : DAt B24 6 (.lconst 0) 1 7 := ⟨by decide +kernel, rfl⟩
theorem d24_7 : DAt B24 7 (.lreturn) 1 8 := ⟨by decide +kernel, rfl⟩
theorem d24_8 : DAt B24 8 (.iload_n 1) 1 9 := ⟨by decide +kernel, rfl⟩
theorem d24_9 : DAt B24 9 (.bipush 9) 2 11 := ⟨by decide +kernel, rfl⟩
theorem d24_11 : DAt B24 11 (.if_icmp .ne 7) 3 14 := ⟨by decide +kernel, rfl⟩
theorem d24_14 : DAt B24 14 (.ldc2_w 116) 3 17 := ⟨by decide +kernel, rfl⟩
theorem d24_17 : DAt B24 17 (.lreturn) 1 18 := ⟨by decide +kernel, rfl⟩
theorem d24_18 : DAt B24 18 (.aload_n 0) 1 19 := ⟨by decide +kernel, rfl⟩
theorem d24_19 : DAt B24 19 (.iload_n 1) 1 20 := ⟨by decide +kernel, rfl⟩
theorem d24_20 : DAt B24 20 (.iload_n 2) 1 21 := ⟨by decide +kernel, rfl⟩
theorem d24_21 : DAt B24 21 (.invokevirtual 122) 3 24 := ⟨by decide +kernel, rfl⟩
theorem d24_24 : DAt B24 24 (.lreturn) 1 25 := ⟨by decide +kernel, rfl⟩
def B23 : Bdy := ((⟨"SaturProver", "pushLeaf", "(II)V"⟩ : MethodName), prog_1_method_27_code, 5, none, ({ frames := 2, cells := 0, slots := 0, locals := 30 } : Room))
theorem d23_0 : DAt B23 0 (.iload_n 2) 1 1 := ⟨by decide +kernel, rfl⟩
theorem d23_1 : DAt B23 1 (.iconst 4) 1 2 := ⟨by decide +kernel, rfl⟩
theorem d23_2 : DAt B23 2 (.imul) 1 3 := ⟨by decide +kernel, rfl⟩
theorem d23_3 : DAt B23 3 (.istore_n 3) 1 4 := ⟨by decide +kernel, rfl⟩
theorem d23_4 : DAt B23 4 (.iconst 0) 1 5 := ⟨by decide +kernel, rfl⟩
theorem d23_5 : DAt B23 5 (.istore 4) 2 7 := ⟨by decide +kernel, rfl⟩
theorem d23_7 : DAt B23 7 (.iload 4) 2 9 := ⟨by decide +kernel, rfl⟩
theorem d23_9 : DAt B23 9 (.iconst 4) 1 10 := ⟨by decide +kernel, rfl⟩
theorem d23_10 : DAt B23 10 (.if_icmp .ge 25) 3 13 := ⟨by decide +kernel, rfl⟩
theorem d23_13 : DAt B23 13 (.aload_n 0) 1 14 := ⟨by decide +kernel, rfl⟩
theorem d23_14 : DAt B23 14 (.getfield 16) 3 17 := ⟨by decide +kernel, rfl⟩
theorem d23_17 : DAt B23 17 (.iload_n 3) 1 18 := ⟨by decide +kernel, rfl⟩
theorem d23_18 : DAt B23 18 (.iload 4) 2 20 := ⟨by decide +kernel, rfl⟩
theorem d23_20 : DAt B23 20 (.iadd) 1 21 := ⟨by decide +kernel, rfl⟩
theorem d23_21 : DAt B23 21 (.aload_n 0) 1 22 := ⟨by decide +kernel, rfl⟩
theorem d23_22 : DAt B23 22 (.iload_n 1) 1 23 := ⟨by decide +kernel, rfl⟩
theorem d23_23 : DAt B23 23 (.iload 4) 2 25 := ⟨by decide +kernel, rfl⟩
theorem d23_25 : DAt B23 25 (.invokevirtual 112) 3 28 := ⟨by decide +kernel, rfl⟩
theorem d23_28 : DAt B23 28 (.lastore) 1 29 := ⟨by decide +kernel, rfl⟩
theorem d23_29 : DAt B23 29 (.iinc 4 1) 3 32 := ⟨by decide +kernel, rfl⟩
theorem d23_32 : DAt B23 32 (.goto (-25)) 3 35 := ⟨by decide +kernel, rfl⟩
theorem d23_35 : DAt B23 35 (.return_) 1 36 := ⟨by decide +kernel, rfl⟩
def B37 : Bdy := ((⟨"SaturProver", "negateSlot", "(I)V"⟩ : MethodName), prog_1_method_28_code, 4, none, ({ frames := 0, cells := 0, slots := 0, locals := 0 } : Room))
theorem d37_0 : DAt B37 0 (.iload_n 1) 1 1 := ⟨by decide +kernel, rfl⟩
theorem d37_1 : DAt B37 1 (.iconst 4) 1 2 := ⟨by decide +kernel, rfl⟩
theorem d37_2 : DAt B37 2 (.imul) 1 3 := ⟨by decide +kernel, rfl⟩
theorem d37_3 : DAt B37 3 (.istore_n 2) 1 4 := ⟨by decide +kernel, rfl⟩
theorem d37_4 : DAt B37 4 (.iconst 0) 1 5 := ⟨by decide +kernel, rfl⟩
theorem d37_5 : DAt B37 5 (.istore_n 3) 1 6 := ⟨by decide +kernel, rfl⟩
theorem d37_6 : DAt B37 6 (.iload_n 3) 1 7 := ⟨by decide +kernel, rfl⟩
theorem d37_7 : DAt B37 7 (.iconst 4) 1 8 := ⟨by decide +kernel, rfl⟩
theorem d37_8 : DAt B37 8 (.if_icmp .ge 29) 3 11 := ⟨by decide +kernel, rfl⟩
theorem d37_11 : DAt B37 11 (.aload_n 0) 1 12 := ⟨by decide +kernel, rfl⟩
theorem d37_12 : DAt B37 12 (.getfield 16) 3 15 := ⟨by decide +kernel, rfl⟩
theorem d37_15 : DAt B37 15 (.iload_n 2) 1 16 := ⟨by decide +kernel, rfl⟩
theorem d37_16 : DAt B37 16 (.iload_n 3) 1 17 := ⟨by decide +kernel, rfl⟩
theorem d37_17 : DAt B37 17 (.iadd) 1 18 := ⟨by decide +kernel, rfl⟩
theorem d37_18 : DAt B37 18 (.aload_n 0) 1 19 := ⟨by decide +kernel, rfl⟩
theorem d37_19 : DAt B37 19 (.getfield 16) 3 22 := ⟨by decide +kernel, rfl⟩
theorem d37_22 : DAt B37 22 (.iload_n 2) 1 23 := ⟨by decide +kernel, rfl⟩
theorem d37_23 : DAt B37 23 (.iload_n 3) 1 24 := ⟨by decide +kernel, rfl⟩
theorem d37_24 : DAt B37 24 (.iadd) 1 25 := ⟨by decide +kernel, rfl⟩
theorem d37_25 : DAt B37 25 (.laload) 1 26 := ⟨by decide +kernel, rfl⟩
theorem d37_26 : DAt B37 26 (.ldc2_w 116) 3 29 := ⟨by decide +kernel, rfl⟩
theorem d37_29 : DAt B37 29 (.lxor) 1 30 := ⟨by decide +kernel, rfl⟩
theorem d37_30 : DAt B37 30 (.lastore) 1 31 := ⟨by decide +kernel, rfl⟩
theorem d37_31 : DAt B37 31 (.iinc 3 1) 3 34 := ⟨by decide +kernel, rfl⟩
theorem d37_34 : DAt B37 34 (.goto (-28)) 3 37 := ⟨by decide +kernel, rfl⟩
theorem d37_37 : DAt B37 37 (.return_) 1 38 := ⟨by decide +kernel, rfl⟩
def B41 : Bdy := ((⟨"SaturProver", "combine", "(IJJ)J"⟩ : MethodName), prog_1_method_30_code, 6, (some .long), ({ frames := 0, cells := 0, slots := 0, locals := 0 } : Room))
theorem d41_0 : DAt B41 0 (.iload_n 1) 1 1 := ⟨by decide +kernel, rfl⟩
theorem d41_1 : DAt B41 1 (.tableswitch 59 11 14 #[31, 36, 41, 50]) 31 32 := ⟨by decide +kernel, rfl⟩
theorem d41_32 : DAt B41 32 (.lload_n 2) 1 33 := ⟨by decide +kernel, rfl⟩
theorem d41_33 : DAt B41 33 (.lload 4) 2 35 := ⟨by decide +kernel, rfl⟩
theorem d41_35 : DAt B41 35 (.land) 1 36 := ⟨by decide +kernel, rfl⟩
theorem d41_36 : DAt B41 36 (.lreturn) 1 37 := ⟨by decide +kernel, rfl⟩
theorem d41_37 : DAt B41 37 (.lload_n 2) 1 38 := ⟨by decide +kernel, rfl⟩
theorem d41_38 : DAt B41 38 (.lload 4) 2 40 := ⟨by decide +kernel, rfl⟩
theorem d41_40 : DAt B41 40 (.lor) 1 41 := ⟨by decide +kernel, rfl⟩
theorem d41_41 : DAt B41 41 (.lreturn) 1 42 := ⟨by decide +kernel, rfl⟩
theorem d41_42 : DAt B41 42 (.lload_n 2) 1 43 := ⟨by decide +kernel, rfl⟩
theorem d41_43 : DAt B41 43 (.ldc2_w 116) 3 46 := ⟨by decide +kernel, rfl⟩
theorem d41_46 : DAt B41 46 (.lxor) 1 47 := ⟨by decide +kernel, rfl⟩
theorem d41_47 : DAt B41 47 (.lload 4) 2 49 := ⟨by decide +kernel, rfl⟩
theorem d41_49 : DAt B41 49 (.lor) 1 50 := ⟨by decide +kernel, rfl⟩
theorem d41_50 : DAt B41 50 (.lreturn) 1 51 := ⟨by decide +kernel, rfl⟩
theorem d41_51 : DAt B41 51 (.lload_n 2) 1 52 := ⟨by decide +kernel, rfl⟩
theorem d41_52 : DAt B41 52 (.lload 4) 2 54 := ⟨by decide +kernel, rfl⟩
theorem d41_54 : DAt B41 54 (.lxor) 1 55 := ⟨by decide +kernel, rfl⟩
theorem d41_55 : DAt B41 55 (.ldc2_w 116) 3 58 := ⟨by decide +kernel, rfl⟩
theorem d41_58 : DAt B41 58 (.lxor) 1 59 := ⟨by decide +kernel, rfl⟩
theorem d41_59 : DAt B41 59 (.lreturn) 1 60 := ⟨by decide +kernel, rfl⟩
theorem d41_60 : DAt B41 60 (.lload_n 2) 1 61 := ⟨by decide +kernel, rfl⟩
theorem d41_61 : DAt B41 61 (.lload 4) 2 63 := ⟨by decide +kernel, rfl⟩
theorem d41_63 : DAt B41 63 (.lxor) 1 64 := ⟨by decide +kernel, rfl⟩
theorem d41_64 : DAt B41 64 (.lreturn) 1 65 := ⟨by decide +kernel, rfl⟩
def B40 : Bdy := ((⟨"SaturProver", "combineSlots", "(II)V"⟩ : MethodName), prog_1_method_29_code, 9, none, ({ frames := 1, cells := 0, slots := 0, locals := 19 } : Room))
theorem d40_0 : DAt B40 0 (.iload_n 2) 1 1 := ⟨by decide +kernel, rfl⟩
theorem d40_1 : DAt B40 1 (.iconst 4) 1 2 := ⟨by decide +kernel, rfl⟩
theorem d40_2 : DAt B40 2 (.imul) 1 3 := ⟨by decide +kernel, rfl⟩
theorem d40_3 : DAt B40 3 (.istore_n 3) 1 4 := ⟨by decide +kernel, rfl⟩
theorem d40_4 : DAt B40 4 (.iconst 0) 1 5 := ⟨by decide +kernel, rfl⟩
theorem d40_5 : DAt B40 5 (.istore 4) 2 7 := ⟨by decide +kernel, rfl⟩
theorem d40_7 : DAt B40 7 (.iload 4) 2 9 := ⟨by decide +kernel, rfl⟩
theorem d40_9 : DAt B40 9 (.iconst 4) 1 10 := ⟨by decide +kernel, rfl⟩
theorem d40_10 : DAt B40 10 (.if_icmp .ge 51) 3 13 := ⟨by decide +kernel, rfl⟩
theorem d40_13 : DAt B40 13 (.aload_n 0) 1 14 := ⟨by decide +kernel, rfl⟩
theorem d40_14 : DAt B40 14 (.getfield 16) 3 17 := ⟨by decide +kernel, rfl⟩
theorem d40_17 : DAt B40 17 (.iload_n 3) 1 18 := ⟨by decide +kernel, rfl⟩
theorem d40_18 : DAt B40 18 (.iload 4) 2 20 := ⟨by decide +kernel, rfl⟩
theorem d40_20 : DAt B40 20 (.iadd) 1 21 := ⟨by decide +kernel, rfl⟩
theorem d40_21 : DAt B40 21 (.laload) 1 22 := ⟨by decide +kernel, rfl⟩
theorem d40_22 : DAt B40 22 (.lstore 5) 2 24 := ⟨by decide +kernel, rfl⟩
theorem d40_24 : DAt B40 24 (.aload_n 0) 1 25 := ⟨by decide +kernel, rfl⟩
theorem d40_25 : DAt B40 25 (.getfield 16) 3 28 := ⟨by decide +kernel, rfl⟩
theorem d40_28 : DAt B40 28 (.iload_n 3) 1 29 := ⟨by decide +kernel, rfl⟩
theorem d40_29 : DAt B40 29 (.iconst 4) 1 30 := ⟨by decide +kernel, rfl⟩
theorem d40_30 : DAt B40 30 (.iadd) 1 31 := ⟨by decide +kernel, rfl⟩
theorem d40_31 : DAt B40 31 (.iload 4) 2 33 := ⟨by decide +kernel, rfl⟩
theorem d40_33 : DAt B40 33 (.iadd) 1 34 := ⟨by decide +kernel, rfl⟩
theorem d40_34 : DAt B40 34 (.laload) 1 35 := ⟨by decide +kernel, rfl⟩
theorem d40_35 : DAt B40 35 (.lstore 7) 2 37 := ⟨by decide +kernel, rfl⟩
theorem d40_37 : DAt B40 37 (.aload_n 0) 1 38 := ⟨by decide +kernel, rfl⟩
theorem d40_38 : DAt B40 38 (.getfield 16) 3 41 := ⟨by decide +kernel, rfl⟩
theorem d40_41 : DAt B40 41 (.iload_n 3) 1 42 := ⟨by decide +kernel, rfl⟩
theorem d40_42 : DAt B40 42 (.iload 4) 2 44 := ⟨by decide +kernel, rfl⟩
theorem d40_44 : DAt B40 44 (.iadd) 1 45 := ⟨by decide +kernel, rfl⟩
theorem d40_45 : DAt B40 45 (.aload_n 0) 1 46 := ⟨by decide +kernel, rfl⟩
theorem d40_46 : DAt B40 46 (.iload_n 1) 1 47 := ⟨by decide +kernel, rfl⟩
theorem d40_47 : DAt B40 47 (.lload 5) 2 49 := ⟨by decide +kernel, rfl⟩
theorem d40_49 : DAt B40 49 (.lload 7) 2 51 := ⟨by decide +kernel, rfl⟩
theorem d40_51 : DAt B40 51 (.invokevirtual 118) 3 54 := ⟨by decide +kernel, rfl⟩
theorem d40_54 : DAt B40 54 (.lastore) 1 55 := ⟨by decide +kernel, rfl⟩
theorem d40_55 : DAt B40 55 (.iinc 4 1) 3 58 := ⟨by decide +kernel, rfl⟩
theorem d40_58 : DAt B40 58 (.goto (-51)) 3 61 := ⟨by decide +kernel, rfl⟩
theorem d40_61 : DAt B40 61 (.return_) 1 62 := ⟨by decide +kernel, rfl⟩
def B22 : Bdy := ((⟨"SaturProver", "step", "(II)I"⟩ : MethodName), prog_1_method_26_code, 4, (some .int), ({ frames := 3, cells := 0, slots := 0, locals := 46 } : Room))
theorem d22_0 : DAt B22 0 (.aload_n 0) 1 1 := ⟨by decide +kernel, rfl⟩
theorem d22_1 : DAt B22 1 (.iload_n 1) 1 2 := ⟨by decide +kernel, rfl⟩
theorem d22_2 : DAt B22 2 (.invokevirtual 52) 3 5 := ⟨by decide +kernel, rfl⟩
theorem d22_5 : DAt B22 5 (.istore_n 3) 1 6 := ⟨by decide +kernel, rfl⟩
theorem d22_6 : DAt B22 6 (.iload_n 3) 1 7 := ⟨by decide +kernel, rfl⟩
theorem d22_7 : DAt B22 7 (.iload_n 2) 1 8 := ⟨by decide +kernel, rfl⟩
theorem d22_8 : DAt B22 8 (.if_icmp .gt 9) 3 11 := ⟨by decide +kernel, rfl⟩
theorem d22_11 : DAt B22 11 (.iload_n 2) 1 12 := ⟨by decide +kernel, rfl⟩
theorem d22_12 : DAt B22 12 (.bipush 32) 2 14 := ⟨by decide +kernel, rfl⟩
theorem d22_14 : DAt B22 14 (.if_icmp .le 5) 3 17 := ⟨by decide +kernel, rfl⟩
theorem d22_17 : DAt B22 17 (.iload_n 2) 1 18 := ⟨by decide +kernel, rfl⟩
theorem d22_18 : DAt B22 18 (.ireturn) 1 19 := ⟨by decide +kernel, rfl⟩
theorem d22_19 : DAt B22 19 (.iload_n 3) 1 20 := ⟨by decide +kernel, rfl⟩
theorem d22_20 : DAt B22 20 (.ifCond .ne 21) 3 23 := ⟨by decide +kernel, rfl⟩
theorem d22_23 : DAt B22 23 (.iload_n 2) 1 24 := ⟨by decide +kernel, rfl⟩
theorem d22_24 : DAt B22 24 (.bipush 32) 2 26 := ⟨by decide +kernel, rfl⟩
theorem d22_26 : DAt B22 26 (.if_icmp .lt 5) 3 29 := ⟨by decide +kernel, rfl⟩
theorem d22_29 : DAt B22 29 (.iload_n 2) 1 30 := ⟨by decide +kernel, rfl⟩
theorem d22_30 : DAt B22 30 (.ireturn) 1 31 := ⟨by decide +kernel, rfl⟩
theorem d22_31 : DAt B22 31 (.aload_n 0) 1 32 := ⟨by decide +kernel, rfl⟩
theorem d22_32 : DAt B22 32 (.iload_n 1) 1 33 := ⟨by decide +kernel, rfl⟩
theorem d22_33 : DAt B22 33 (.iload_n 2) 1 34 := ⟨by decide +kernel, rfl⟩
theorem d22_34 : DAt B22 34 (.invokevirtual 103) 3 37 := ⟨by decide +kernel, rfl⟩
theorem d22_37 : DAt B22 37 (.iload_n 2) 1 38 := ⟨by decide +kernel, rfl⟩
theorem d22_38 : DAt B22 38 (.iconst 1) 1 39 := ⟨by decide +kernel, rfl⟩
theorem d22_39 : DAt B22 39 (.iadd) 1 40 := ⟨by decide +kernel, rfl⟩
theorem d22_40 : DAt B22 40 (.ireturn) 1 41 := ⟨by decide +kernel, rfl⟩
theorem d22_41 : DAt B22 41 (.iload_n 3) 1 42 := ⟨by decide +kernel, rfl⟩
theorem d22_42 : DAt B22 42 (.iconst 1) 1 43 := ⟨by decide +kernel, rfl⟩
theorem d22_43 : DAt B22 43 (.if_icmp .ne 12) 3 46 := ⟨by decide +kernel, rfl⟩
theorem d22_46 : DAt B22 46 (.aload_n 0) 1 47 := ⟨by decide +kernel, rfl⟩
theorem d22_47 : DAt B22 47 (.iload_n 2) 1 48 := ⟨by decide +kernel, rfl⟩
theorem d22_48 : DAt B22 48 (.iconst 1) 1 49 := ⟨by decide +kernel, rfl⟩
theorem d22_49 : DAt B22 49 (.isub) 1 50 := ⟨by decide +kernel, rfl⟩
theorem d22_50 : DAt B22 50 (.invokevirtual 106) 3 53 := ⟨by decide +kernel, rfl⟩
theorem d22_53 : DAt B22 53 (.iload_n 2) 1 54 := ⟨by decide +kernel, rfl⟩
theorem d22_54 : DAt B22 54 (.ireturn) 1 55 := ⟨by decide +kernel, rfl⟩
theorem d22_55 : DAt B22 55 (.aload_n 0) 1 56 := ⟨by decide +kernel, rfl⟩
theorem d22_56 : DAt B22 56 (.iload_n 1) 1 57 := ⟨by decide +kernel, rfl⟩
theorem d22_57 : DAt B22 57 (.iload_n 2) 1 58 := ⟨by decide +kernel, rfl⟩
theorem d22_58 : DAt B22 58 (.iconst 2) 1 59 := ⟨by decide +kernel, rfl⟩
theorem d22_59 : DAt B22 59 (.isub) 1 60 := ⟨by decide +kernel, rfl⟩
theorem d22_60 : DAt B22 60 (.invokevirtual 109) 3 63 := ⟨by decide +kernel, rfl⟩
theorem d22_63 : DAt B22 63 (.iload_n 2) 1 64 := ⟨by decide +kernel, rfl⟩
theorem d22_64 : DAt B22 64 (.iconst 1) 1 65 := ⟨by decide +kernel, rfl⟩
theorem d22_65 : DAt B22 65 (.isub) 1 66 := ⟨by decide +kernel, rfl⟩
theorem d22_66 : DAt B22 66 (.ireturn) 1 67 := ⟨by decide +kernel, rfl⟩
def B26 : Bdy := ((⟨"SaturProver", "storeTopIntoF", "(I)V"⟩ : MethodName), prog_1_method_25_code, 5, none, ({ frames := 0, cells := 0, slots := 0, locals := 0 } : Room))
theorem d26_0 : DAt B26 0 (.iconst 0) 1 1 := ⟨by decide +kernel, rfl⟩
theorem d26_1 : DAt B26 1 (.istore_n 2) 1 2 := ⟨by decide +kernel, rfl⟩
theorem d26_2 : DAt B26 2 (.iload_n 2) 1 3 := ⟨by decide +kernel, rfl⟩
theorem d26_3 : DAt B26 3 (.iconst 4) 1 4 := ⟨by decide +kernel, rfl⟩
theorem d26_4 : DAt B26 4 (.if_icmp .ge 42) 3 7 := ⟨by decide +kernel, rfl⟩
theorem d26_7 : DAt B26 7 (.lconst 0) 1 8 := ⟨by decide +kernel, rfl⟩
theorem d26_8 : DAt B26 8 (.lstore_n 3) 1 9 := ⟨by decide +kernel, rfl⟩
theorem d26_9 : DAt B26 9 (.iload_n 1) 1 10 := ⟨by decide +kernel, rfl⟩
theorem d26_10 : DAt B26 10 (.iconst 1) 1 11 := ⟨by decide +kernel, rfl⟩
theorem d26_11 : DAt B26 11 (.if_icmp .lt 22) 3 14 := ⟨by decide +kernel, rfl⟩
theorem d26_14 : DAt B26 14 (.iload_n 1) 1 15 := ⟨by decide +kernel, rfl⟩
theorem d26_15 : DAt B26 15 (.bipush 32) 2 17 := ⟨by decide +kernel, rfl⟩
theorem d26_17 : DAt B26 17 (.if_icmp .gt 16) 3 20 := ⟨by decide +kernel, rfl⟩
theorem d26_20 : DAt B26 20 (.aload_n 0) 1 21 := ⟨by decide +kernel, rfl⟩
theorem d26_21 : DAt B26 21 (.getfield 16) 3 24 := ⟨by decide +kernel, rfl⟩
theorem d26_24 : DAt B26 24 (.iload_n 1) 1 25 := ⟨by decide +kernel, rfl⟩
theorem d26_25 : DAt B26 25 (.iconst 1) 1 26 := ⟨by decide +kernel, rfl⟩
theorem d26_26 : DAt B26 26 (.isub) 1 27 := ⟨by decide +kernel, rfl⟩
theorem d26_27 : DAt B26 27 (.iconst 4) 1 28 := ⟨by decide +kernel, rfl⟩
theorem d26_28 : DAt B26 28 (.imul) 1 29 := ⟨by decide +kernel, rfl⟩
theorem d26_29 : DAt B26 29 (.iload_n 2) 1 30 := ⟨by decide +kernel, rfl⟩
theorem d26_30 : DAt B26 30 (.iadd) 1 31 := ⟨by decide +kernel, rfl⟩
theorem d26_31 : DAt B26 31 (.laload) 1 32 := ⟨by decide +kernel, rfl⟩
theorem d26_32 : DAt B26 32 (.lstore_n 3) 1 33 := ⟨by decide +kernel, rfl⟩
theorem d26_33 : DAt B26 33 (.aload_n 0) 1 34 := ⟨by decide +kernel, rfl⟩
theorem d26_34 : DAt B26 34 (.getfield 20) 3 37 := ⟨by decide +kernel, rfl⟩
theorem d26_37 : DAt B26 37 (.iload_n 2) 1 38 := ⟨by decide +kernel, rfl⟩
theorem d26_38 : DAt B26 38 (.lload_n 3) 1 39 := ⟨by decide +kernel, rfl⟩
theorem d26_39 : DAt B26 39 (.lastore) 1 40 := ⟨by decide +kernel, rfl⟩
theorem d26_40 : DAt B26 40 (.iinc 2 1) 3 43 := ⟨by decide +kernel, rfl⟩
theorem d26_43 : DAt B26 43 (.goto (-41)) 3 46 := ⟨by decide +kernel, rfl⟩
theorem d26_46 : DAt B26 46 (.return_) 1 47 := ⟨by decide +kernel, rfl⟩
def B21 : Bdy := ((⟨"SaturProver", "ensureTableF", "()V"⟩ : MethodName), prog_1_method_24_code, 4, none, ({ frames := 4, cells := 0, slots := 0, locals := 61 } : Room))
theorem d21_0 : DAt B21 0 (.aload_n 0) 1 1 := ⟨by decide +kernel, rfl⟩
theorem d21_1 : DAt B21 1 (.getfield 46) 3 4 := ⟨by decide +kernel, rfl⟩
theorem d21_4 : DAt B21 4 (.ifCond .eq 4) 3 7 := ⟨by decide +kernel, rfl⟩
theorem d21_7 : DAt B21 7 (.return_) 1 8 := ⟨by decide +kernel, rfl⟩
theorem d21_8 : DAt B21 8 (.aload_n 0) 1 9 := ⟨by decide +kernel, rfl⟩
theorem d21_9 : DAt B21 9 (.getfield 33) 3 12 := ⟨by decide +kernel, rfl⟩
theorem d21_12 : DAt B21 12 (.istore_n 1) 1 13 := ⟨by decide +kernel, rfl⟩
theorem d21_13 : DAt B21 13 (.iload_n 1) 1 14 := ⟨by decide +kernel, rfl⟩
theorem d21_14 : DAt B21 14 (.bipush 32) 2 16 := ⟨by decide +kernel, rfl⟩
theorem d21_16 : DAt B21 16 (.if_icmp .le 6) 3 19 := ⟨by decide +kernel, rfl⟩
theorem d21_19 : DAt B21 19 (.bipush 32) 2 21 := ⟨by decide +kernel, rfl⟩
theorem d21_21 : DAt B21 21 (.istore_n 1) 1 22 := ⟨by decide +kernel, rfl⟩
theorem d21_22 : DAt B21 22 (.iconst 0) 1 23 := ⟨by decide +kernel, rfl⟩
theorem d21_23 : DAt B21 23 (.istore_n 2) 1 24 := ⟨by decide +kernel, rfl⟩
theorem d21_24 : DAt B21 24 (.iconst 0) 1 25 := ⟨by decide +kernel, rfl⟩
theorem d21_25 : DAt B21 25 (.istore_n 3) 1 26 := ⟨by decide +kernel, rfl⟩
theorem d21_26 : DAt B21 26 (.iload_n 3) 1 27 := ⟨by decide +kernel, rfl⟩
theorem d21_27 : DAt B21 27 (.iload_n 1) 1 28 := ⟨by decide +kernel, rfl⟩
theorem d21_28 : DAt B21 28 (.if_icmp .ge 21) 3 31 := ⟨by decide +kernel, rfl⟩
theorem d21_31 : DAt B21 31 (.aload_n 0) 1 32 := ⟨by decide +kernel, rfl⟩
theorem d21_32 : DAt B21 32 (.aload_n 0) 1 33 := ⟨by decide +kernel, rfl⟩
theorem d21_33 : DAt B21 33 (.getfield 7) 3 36 := ⟨by decide +kernel, rfl⟩
theorem d21_36 : DAt B21 36 (.iload_n 3) 1 37 := ⟨by decide +kernel, rfl⟩
theorem d21_37 : DAt B21 37 (.iaload) 1 38 := ⟨by decide +kernel, rfl⟩
theorem d21_38 : DAt B21 38 (.iload_n 2) 1 39 := ⟨by decide +kernel, rfl⟩
theorem d21_39 : DAt B21 39 (.invokevirtual 95) 3 42 := ⟨by decide +kernel, rfl⟩
theorem d21_42 : DAt B21 42 (.istore_n 2) 1 43 := ⟨by decide +kernel, rfl⟩
theorem d21_43 : DAt B21 43 (.iinc 3 1) 3 46 := ⟨by decide +kernel, rfl⟩
theorem d21_46 : DAt B21 46 (.goto (-20)) 3 49 := ⟨by decide +kernel, rfl⟩
theorem d21_49 : DAt B21 49 (.aload_n 0) 1 50 := ⟨by decide +kernel, rfl⟩
theorem d21_50 : DAt B21 50 (.iload_n 2) 1 51 := ⟨by decide +kernel, rfl⟩
theorem d21_51 : DAt B21 51 (.invokevirtual 99) 3 54 := ⟨by decide +kernel, rfl⟩
theorem d21_54 : DAt B21 54 (.aload_n 0) 1 55 := ⟨by decide +kernel, rfl⟩
theorem d21_55 : DAt B21 55 (.iconst 1) 1 56 := ⟨by decide +kernel, rfl⟩
theorem d21_56 : DAt B21 56 (.putfield 46) 3 59 := ⟨by decide +kernel, rfl⟩
theorem d21_59 : DAt B21 59 (.return_) 1 60 := ⟨by decide +kernel, rfl⟩
def B27 : Bdy := ((⟨"SaturProver", "copyTableFToS", "()V"⟩ : MethodName), prog_1_method_23_code, 2, none, ({ frames := 0, cells := 0, slots := 0, locals := 0 } : Room))
theorem d27_0 : DAt B27 0 (.iconst 0) 1 1 := ⟨by decide +kernel, rfl⟩
theorem d27_1 : DAt B27 1 (.istore_n 1) 1 2 := ⟨by decide +kernel, rfl⟩
theorem d27_2 : DAt B27 2 (.iload_n 1) 1 3 := ⟨by decide +kernel, rfl⟩
theorem d27_3 : DAt B27 3 (.iconst 4) 1 4 := ⟨by decide +kernel, rfl⟩
theorem d27_4 : DAt B27 4 (.if_icmp .ge 21) 3 7 := ⟨by decide +kernel, rfl⟩
theorem d27_7 : DAt B27 7 (.aload_n 0) 1 8 := ⟨by decide +kernel, rfl⟩
theorem d27_8 : DAt B27 8 (.getfield 23) 3 11 := ⟨by decide +kernel, rfl⟩
theorem d27_11 : DAt B27 11 (.iload_n 1) 1 12 := ⟨by decide +kernel, rfl⟩
theorem d27_12 : DAt B27 12 (.aload_n 0) 1 13 := ⟨by decide +kernel, rfl⟩
theorem d27_13 : DAt B27 13 (.getfield 20) 3 16 := ⟨by decide +kernel, rfl⟩
theorem d27_16 : DAt B27 16 (.iload_n 1) 1 17 := ⟨by decide +kernel, rfl⟩
theorem d27_17 : DAt B27 17 (.laload) 1 18 := ⟨by decide +kernel, rfl⟩
theorem d27_18 : DAt B27 18 (.lastore) 1 19 := ⟨by decide +kernel, rfl⟩
theorem d27_19 : DAt B27 19 (.iinc 1 1) 3 22 := ⟨by decide +kernel, rfl⟩
theorem d27_22 : DAt B27 22 (.goto (-20)) 3 25 := ⟨by decide +kernel, rfl⟩
theorem d27_25 : DAt B27 25 (.return_) 1 26 := ⟨by decide +kernel, rfl⟩
def B19 : Bdy := ((⟨"SaturProver", "save", "()I"⟩ : MethodName), prog_1_method_5_code, 1, (some .int), ({ frames := 5, cells := 0, slots := 0, locals := 76 } : Room))
theorem d19_0 : DAt B19 0 (.aload_n 0) 1 1 := ⟨by decide +kernel, rfl⟩
theorem d19_1 : DAt B19 1 (.invokevirtual 56) 3 4 := ⟨by decide +kernel, rfl⟩
theorem d19_4 : DAt B19 4 (.ifCond .ne 6) 3 7 := ⟨by decide +kernel, rfl⟩
theorem d19_7 : DAt B19 7 (.bipush (-5)) 2 9 := ⟨by decide +kernel, rfl⟩
theorem d19_9 : DAt B19 9 (.ireturn) 1 10 := ⟨by decide +kernel, rfl⟩
theorem d19_10 : DAt B19 10 (.aload_n 0) 1 11 := ⟨by decide +kernel, rfl⟩
theorem d19_11 : DAt B19 11 (.invokevirtual 60) 3 14 := ⟨by decide +kernel, rfl⟩
theorem d19_14 : DAt B19 14 (.aload_n 0) 1 15 := ⟨by decide +kernel, rfl⟩
theorem d19_15 : DAt B19 15 (.invokevirtual 63) 3 18 := ⟨by decide +kernel, rfl⟩
theorem d19_18 : DAt B19 18 (.aload_n 0) 1 19 := ⟨by decide +kernel, rfl⟩
theorem d19_19 : DAt B19 19 (.invokevirtual 66) 3 22 := ⟨by decide +kernel, rfl⟩
theorem d19_22 : DAt B19 22 (.aload_n 0) 1 23 := ⟨by decide +kernel, rfl⟩
theorem d19_23 : DAt B19 23 (.iconst 1) 1 24 := ⟨by decide +kernel, rfl⟩
theorem d19_24 : DAt B19 24 (.putfield 42) 3 27 := ⟨by decide +kernel, rfl⟩
theorem d19_27 : DAt B19 27 (.aload_n 0) 1 28 := ⟨by decide +kernel, rfl⟩
theorem d19_28 : DAt B19 28 (.invokevirtual 49) 3 31 := ⟨by decide +kernel, rfl⟩
theorem d19_31 : DAt B19 31 (.iconst 0) 1 32 := ⟨by decide +kernel, rfl⟩
theorem d19_32 : DAt B19 32 (.ireturn) 1 33 := ⟨by decide +kernel, rfl⟩
def B30 : Bdy := ((⟨"SaturProver", "loadWorkNegatedF", "()V"⟩ : MethodName), prog_1_method_35_code, 2, none, ({ frames := 0, cells := 0, slots := 0, locals := 0 } : Room))
theorem d30_0 : DAt B30 0 (.iconst 0) 1 1 := ⟨by decide +kernel, rfl⟩
theorem d30_1 : DAt B30 1 (.istore_n 1) 1 2 := ⟨by decide +kernel, rfl⟩
theorem d30_2 : DAt B30 2 (.iload_n 1) 1 3 := ⟨by decide +kernel, rfl⟩
theorem d30_3 : DAt B30 3 (.iconst 4) 1 4 := ⟨by decide +kernel, rfl⟩
theorem d30_4 : DAt B30 4 (.if_icmp .ge 25) 3 7 := ⟨by decide +kernel, rfl⟩
theorem d30_7 : DAt B30 7 (.aload_n 0) 1 8 := ⟨by decide +kernel, rfl⟩
theorem d30_8 : DAt B30 8 (.getfield 26) 3 11 := ⟨by decide +kernel, rfl⟩
theorem d30_11 : DAt B30 11 (.iload_n 1) 1 12 := ⟨by decide +kernel, rfl⟩
theorem d30_12 : DAt B30 12 (.aload_n 0) 1 13 := ⟨by decide +kernel, rfl⟩
theorem d30_13 : DAt B30 13 (.getfield 20) 3 16 := ⟨by decide +kernel, rfl⟩
theorem d30_16 : DAt B30 16 (.iload_n 1) 1 17 := ⟨by decide +kernel, rfl⟩
theorem d30_17 : DAt B30 17 (.laload) 1 18 := ⟨by decide +kernel, rfl⟩
theorem d30_18 : DAt B30 18 (.ldc2_w 116) 3 21 := ⟨by decide +kernel, rfl⟩
theorem d30_21 : DAt B30 21 (.lxor) 1 22 := ⟨by decide +kernel, rfl⟩
theorem d30_22 : DAt B30 22 (.lastore) 1 23 := ⟨by decide +kernel, rfl⟩
theorem d30_23 : DAt B30 23 (.iinc 1 1) 3 26 := ⟨by decide +kernel, rfl⟩
theorem d30_26 : DAt B30 26 (.goto (-24)) 3 29 := ⟨by decide +kernel, rfl⟩
theorem d30_29 : DAt B30 29 (.return_) 1 30 := ⟨by decide +kernel, rfl⟩
def B32 : Bdy := ((⟨"SaturProver", "lowestBit", "(J)I"⟩ : MethodName), prog_1_method_38_code, 10, (some .int), ({ frames := 0, cells := 0, slots := 0, locals := 0 } : Room))
theorem d32_0 : DAt B32 0 (.lload_n 1) 1 1 := ⟨by decide +kernel, rfl⟩
theorem d32_1 : DAt B32 1 (.lconst 0) 1 2 := ⟨by decide +kernel, rfl⟩
theorem d32_2 : DAt B32 2 (.lcmp) 1 3 := ⟨by decide +kernel, rfl⟩
theorem d32_3 : DAt B32 3 (.ifCond .ne 5) 3 6 := ⟨by decide +kernel, rfl⟩
theorem d32_6 : DAt B32 6 (.iconst (-1)) 1 7 := ⟨by decide +kernel, rfl⟩
theorem d32_7 : DAt B32 7 (.ireturn) 1 8 := ⟨by decide +kernel, rfl⟩
theorem d32_8 : DAt B32 8 (.lload_n 1) 1 9 := ⟨by decide +kernel, rfl⟩
theorem d32_9 : DAt B32 9 (.lload_n 1) 1 10 := ⟨by decide +kernel, rfl⟩
theorem d32_10 : DAt B32 10 (.lneg) 1 11 := ⟨by decide +kernel, rfl⟩
theorem d32_11 : DAt B32 11 (.land) 1 12 := ⟨by decide +kernel, rfl⟩
theorem d32_12 : DAt B32 12 (.lstore_n 3) 1 13 := ⟨by decide +kernel, rfl⟩
theorem d32_13 : DAt B32 13 (.iconst 0) 1 14 := ⟨by decide +kernel, rfl⟩
theorem d32_14 : DAt B32 14 (.istore 5) 2 16 := ⟨by decide +kernel, rfl⟩
theorem d32_16 : DAt B32 16 (.bipush 32) 2 18 := ⟨by decide +kernel, rfl⟩
theorem d32_18 : DAt B32 18 (.istore 6) 2 20 := ⟨by decide +kernel, rfl⟩
theorem d32_20 : DAt B32 20 (.iconst 0) 1 21 := ⟨by decide +kernel, rfl⟩
theorem d32_21 : DAt B32 21 (.istore 7) 2 23 := ⟨by decide +kernel, rfl⟩
theorem d32_23 : DAt B32 23 (.iload 7) 2 25 := ⟨by decide +kernel, rfl⟩
theorem d32_25 : DAt B32 25 (.bipush 6) 2 27 := ⟨by decide +kernel, rfl⟩
theorem d32_27 : DAt B32 27 (.if_icmp .ge 57) 3 30 := ⟨by decide +kernel, rfl⟩
theorem d32_30 : DAt B32 30 (.iload 6) 2 32 := ⟨by decide +kernel, rfl⟩
theorem d32_32 : DAt B32 32 (.bipush 64) 2 34 := ⟨by decide +kernel, rfl⟩
theorem d32_34 : DAt B32 34 (.if_icmp .lt 9) 3 37 := ⟨by decide +kernel, rfl⟩
theorem d32_37 : DAt B32 37 (.ldc2_w 116) 3 40 := ⟨by decide +kernel, rfl⟩
theorem d32_40 : DAt B32 40 (.goto 9) 3 43 := ⟨by decide +kernel, rfl⟩
theorem d32_43 : DAt B32 43 (.lconst 1) 1 44 := ⟨by decide +kernel, rfl⟩
theorem d32_44 : DAt B32 44 (.iload 6) 2 46 := ⟨by decide +kernel, rfl⟩
theorem d32_46 : DAt B32 46 (.lshl) 1 47 := ⟨by decide +kernel, rfl⟩
theorem d32_47 : DAt B32 47 (.lconst 1) 1 48 := ⟨by decide +kernel, rfl⟩
theorem d32_48 : DAt B32 48 (.lsub) 1 49 := ⟨by decide +kernel, rfl⟩
theorem d32_49 : DAt B32 49 (.lstore 8) 2 51 := ⟨by decide +kernel, rfl⟩
theorem d32_51 : DAt B32 51 (.lload_n 3) 1 52 := ⟨by decide +kernel, rfl⟩
theorem d32_52 : DAt B32 52 (.lload 8) 2 54 := ⟨by decide +kernel, rfl⟩
theorem d32_54 : DAt B32 54 (.land) 1 55 := ⟨by decide +kernel, rfl⟩
theorem d32_55 : DAt B32 55 (.lconst 0) 1 56 := ⟨by decide +kernel, rfl⟩
theorem d32_56 : DAt B32 56 (.lcmp) 1 57 := ⟨by decide +kernel, rfl⟩
theorem d32_57 : DAt B32 57 (.ifCond .ne 15) 3 60 := ⟨by decide +kernel, rfl⟩
theorem d32_60 : DAt B32 60 (.iload 5) 2 62 := ⟨by decide +kernel, rfl⟩
theorem d32_62 : DAt B32 62 (.iload 6) 2 64 := ⟨by decide +kernel, rfl⟩
theorem d32_64 : DAt B32 64 (.iadd) 1 65 := ⟨by decide +kernel, rfl⟩
theorem d32_65 : DAt B32 65 (.istore 5) 2 67 := ⟨by decide +kernel, rfl⟩
theorem d32_67 : DAt B32 67 (.lload_n 3) 1 68 := ⟨by decide +kernel, rfl⟩
theorem d32_68 : DAt B32 68 (.iload 6) 2 70 := ⟨by decide +kernel, rfl⟩
theorem d32_70 : DAt B32 70 (.lushr) 1 71 := ⟨by decide +kernel, rfl⟩
theorem d32_71 : DAt B32 71 (.lstore_n 3) 1 72 := ⟨by decide +kernel, rfl⟩
theorem d32_72 : DAt B32 72 (.iload 6) 2 74 := ⟨by decide +kernel, rfl⟩
theorem d32_74 : DAt B32 74 (.iconst 1) 1 75 := ⟨by decide +kernel, rfl⟩
theorem d32_75 : DAt B32 75 (.ishr) 1 76 := ⟨by decide +kernel, rfl⟩
theorem d32_76 : DAt B32 76 (.istore 6) 2 78 := ⟨by decide +kernel, rfl⟩
theorem d32_78 : DAt B32 78 (.iinc 7 1) 3 81 := ⟨by decide +kernel, rfl⟩
theorem d32_81 : DAt B32 81 (.goto (-58)) 3 84 := ⟨by decide +kernel, rfl⟩
theorem d32_84 : DAt B32 84 (.iload 5) 2 86 := ⟨by decide +kernel, rfl⟩
theorem d32_86 : DAt B32 86 (.ireturn) 1 87 := ⟨by decide +kernel, rfl⟩
def B31 : Bdy := ((⟨"SaturProver", "firstSetInWork", "()I"⟩ : MethodName), prog_1_method_37_code, 4, (some .int), ({ frames := 1, cells := 0, slots := 0, locals := 22 } : Room))
theorem d31_0 : DAt B31 0 (.iconst 0) 1 1 := ⟨by decide +kernel, rfl⟩
theorem d31_1 : DAt B31 1 (.istore_n 1) 1 2 := ⟨by decide +kernel, rfl⟩
theorem d31_2 : DAt B31 2 (.iload_n 1) 1 3 := ⟨by decide +kernel, rfl⟩
theorem d31_3 : DAt B31 3 (.iconst 4) 1 4 := ⟨by decide +kernel, rfl⟩
theorem d31_4 : DAt B31 4 (.if_icmp .ge 33) 3 7 := ⟨by decide +kernel, rfl⟩
theorem d31_7 : DAt B31 7 (.aload_n 0) 1 8 := ⟨by decide +kernel, rfl⟩
theorem d31_8 : DAt B31 8 (.getfield 26) 3 11 := ⟨by decide +kernel, rfl⟩
theorem d31_11 : DAt B31 11 (.iload_n 1) 1 12 := ⟨by decide +kernel, rfl⟩
theorem d31_12 : DAt B31 12 (.laload) 1 13 := ⟨by decide +kernel, rfl⟩
theorem d31_13 : DAt B31 13 (.lstore_n 2) 1 14 := ⟨by decide +kernel, rfl⟩
theorem d31_14 : DAt B31 14 (.lload_n 2) 1 15 := ⟨by decide +kernel, rfl⟩
theorem d31_15 : DAt B31 15 (.lconst 0) 1 16 := ⟨by decide +kernel, rfl⟩
theorem d31_16 : DAt B31 16 (.lcmp) 1 17 := ⟨by decide +kernel, rfl⟩
theorem d31_17 : DAt B31 17 (.ifCond .eq 14) 3 20 := ⟨by decide +kernel, rfl⟩
theorem d31_20 : DAt B31 20 (.iload_n 1) 1 21 := ⟨by decide +kernel, rfl⟩
theorem d31_21 : DAt B31 21 (.bipush 64) 2 23 := ⟨by decide +kernel, rfl⟩
theorem d31_23 : DAt B31 23 (.imul) 1 24 := ⟨by decide +kernel, rfl⟩
theorem d31_24 : DAt B31 24 (.aload_n 0) 1 25 := ⟨by decide +kernel, rfl⟩
theorem d31_25 : DAt B31 25 (.lload_n 2) 1 26 := ⟨by decide +kernel, rfl⟩
theorem d31_26 : DAt B31 26 (.invokevirtual 137) 3 29 := ⟨by decide +kernel, rfl⟩
theorem d31_29 : DAt B31 29 (.iadd) 1 30 := ⟨by decide +kernel, rfl⟩
theorem d31_30 : DAt B31 30 (.ireturn) 1 31 := ⟨by decide +kernel, rfl⟩
theorem d31_31 : DAt B31 31 (.iinc 1 1) 3 34 := ⟨by decide +kernel, rfl⟩
theorem d31_34 : DAt B31 34 (.goto (-32)) 3 37 := ⟨by decide +kernel, rfl⟩
theorem d31_37 : DAt B31 37 (.iconst (-1)) 1 38 := ⟨by decide +kernel, rfl⟩
theorem d31_38 : DAt B31 38 (.ireturn) 1 39 := ⟨by decide +kernel, rfl⟩
def B33 : Bdy := ((⟨"SaturProver", "setResult", "(II)V"⟩ : MethodName), prog_1_method_20_code, 3, none, ({ frames := 0, cells := 0, slots := 0, locals := 0 } : Room))
theorem d33_0 : DAt B33 0 (.aload_n 0) 1 1 := ⟨by decide +kernel, rfl⟩
theorem d33_1 : DAt B33 1 (.iload_n 1) 1 2 := ⟨by decide +kernel, rfl⟩
theorem d33_2 : DAt B33 2 (.putfield 89) 3 5 := ⟨by decide +kernel, rfl⟩
theorem d33_5 : DAt B33 5 (.aload_n 0) 1 6 := ⟨by decide +kernel, rfl⟩
theorem d33_6 : DAt B33 6 (.iload_n 2) 1 7 := ⟨by decide +kernel, rfl⟩
theorem d33_7 : DAt B33 7 (.putfield 92) 3 10 := ⟨by decide +kernel, rfl⟩
theorem d33_10 : DAt B33 10 (.return_) 1 11 := ⟨by decide +kernel, rfl⟩
def B29 : Bdy := ((⟨"SaturProver", "prove", "()I"⟩ : MethodName), prog_1_method_13_code, 2, (some .int), ({ frames := 5, cells := 0, slots := 0, locals := 76 } : Room))
theorem d29_0 : DAt B29 0 (.aload_n 0) 1 1 := ⟨by decide +kernel, rfl⟩
theorem d29_1 : DAt B29 1 (.invokevirtual 56) 3 4 := ⟨by decide +kernel, rfl⟩
theorem d29_4 : DAt B29 4 (.ifCond .ne 6) 3 7 := ⟨by decide +kernel, rfl⟩
theorem d29_7 : DAt B29 7 (.bipush (-5)) 2 9 := ⟨by decide +kernel, rfl⟩
theorem d29_9 : DAt B29 9 (.ireturn) 1 10 := ⟨by decide +kernel, rfl⟩
theorem d29_10 : DAt B29 10 (.aload_n 0) 1 11 := ⟨by decide +kernel, rfl⟩
theorem d29_11 : DAt B29 11 (.invokevirtual 63) 3 14 := ⟨by decide +kernel, rfl⟩
theorem d29_14 : DAt B29 14 (.aload_n 0) 1 15 := ⟨by decide +kernel, rfl⟩
theorem d29_15 : DAt B29 15 (.invokevirtual 72) 3 18 := ⟨by decide +kernel, rfl⟩
theorem d29_18 : DAt B29 18 (.aload_n 0) 1 19 := ⟨by decide +kernel, rfl⟩
theorem d29_19 : DAt B29 19 (.invokevirtual 75) 3 22 := ⟨by decide +kernel, rfl⟩
theorem d29_22 : DAt B29 22 (.istore_n 1) 1 23 := ⟨by decide +kernel, rfl⟩
theorem d29_23 : DAt B29 23 (.iload_n 1) 1 24 := ⟨by decide +kernel, rfl⟩
theorem d29_24 : DAt B29 24 (.ifCond .ge 11) 3 27 := ⟨by decide +kernel, rfl⟩
theorem d29_27 : DAt B29 27 (.aload_n 0) 1 28 := ⟨by decide +kernel, rfl⟩
theorem d29_28 : DAt B29 28 (.iconst 1) 1 29 := ⟨by decide +kernel, rfl⟩
theorem d29_29 : DAt B29 29 (.iconst (-1)) 1 30 := ⟨by decide +kernel, rfl⟩
theorem d29_30 : DAt B29 30 (.invokevirtual 79) 3 33 := ⟨by decide +kernel, rfl⟩
theorem d29_33 : DAt B29 33 (.iconst 1) 1 34 := ⟨by decide +kernel, rfl⟩
theorem d29_34 : DAt B29 34 (.ireturn) 1 35 := ⟨by decide +kernel, rfl⟩
theorem d29_35 : DAt B29 35 (.aload_n 0) 1 36 := ⟨by decide +kernel, rfl⟩
theorem d29_36 : DAt B29 36 (.iconst 2) 1 37 := ⟨by decide +kernel, rfl⟩
theorem d29_37 : DAt B29 37 (.iload_n 1) 1 38 := ⟨by decide +kernel, rfl⟩
theorem d29_38 : DAt B29 38 (.invokevirtual 79) 3 41 := ⟨by decide +kernel, rfl⟩
theorem d29_41 : DAt B29 41 (.iconst 2) 1 42 := ⟨by decide +kernel, rfl⟩
theorem d29_42 : DAt B29 42 (.ireturn) 1 43 := ⟨by decide +kernel, rfl⟩
def B39 : Bdy := ((⟨"SaturProver", "loadWorkF", "()V"⟩ : MethodName), prog_1_method_34_code, 2, none, ({ frames := 0, cells := 0, slots := 0, locals := 0 } : Room))
theorem d39_0 : DAt B39 0 (.iconst 0) 1 1 := ⟨by decide +kernel, rfl⟩
theorem d39_1 : DAt B39 1 (.istore_n 1) 1 2 := ⟨by decide +kernel, rfl⟩
theorem d39_2 : DAt B39 2 (.iload_n 1) 1 3 := ⟨by decide +kernel, rfl⟩
theorem d39_3 : DAt B39 3 (.iconst 4) 1 4 := ⟨by decide +kernel, rfl⟩
theorem d39_4 : DAt B39 4 (.if_icmp .ge 21) 3 7 := ⟨by decide +kernel, rfl⟩
theorem d39_7 : DAt B39 7 (.aload_n 0) 1 8 := ⟨by decide +kernel, rfl⟩
theorem d39_8 : DAt B39 8 (.getfield 26) 3 11 := ⟨by decide +kernel, rfl⟩
theorem d39_11 : DAt B39 11 (.iload_n 1) 1 12 := ⟨by decide +kernel, rfl⟩
theorem d39_12 : DAt B39 12 (.aload_n 0) 1 13 := ⟨by decide +kernel, rfl⟩
theorem d39_13 : DAt B39 13 (.getfield 20) 3 16 := ⟨by decide +kernel, rfl⟩
theorem d39_16 : DAt B39 16 (.iload_n 1) 1 17 := ⟨by decide +kernel, rfl⟩
theorem d39_17 : DAt B39 17 (.laload) 1 18 := ⟨by decide +kernel, rfl⟩
theorem d39_18 : DAt B39 18 (.lastore) 1 19 := ⟨by decide +kernel, rfl⟩
theorem d39_19 : DAt B39 19 (.iinc 1 1) 3 22 := ⟨by decide +kernel, rfl⟩
theorem d39_22 : DAt B39 22 (.goto (-20)) 3 25 := ⟨by decide +kernel, rfl⟩
theorem d39_25 : DAt B39 25 (.return_) 1 26 := ⟨by decide +kernel, rfl⟩
def B18 : Bdy := ((⟨"SaturProver", "satisfy", "()I"⟩ : MethodName), prog_1_method_14_code, 2, (some .int), ({ frames := 5, cells := 0, slots := 0, locals := 76 } : Room))
theorem d18_0 : DAt B18 0 (.aload_n 0) 1 1 := ⟨by decide +kernel, rfl⟩
theorem d18_1 : DAt B18 1 (.invokevirtual 56) 3 4 := ⟨by decide +kernel, rfl⟩
theorem d18_4 : DAt B18 4 (.ifCond .ne 6) 3 7 := ⟨by decide +kernel, rfl⟩
theorem d18_7 : DAt B18 7 (.bipush (-5)) 2 9 := ⟨by decide +kernel, rfl⟩
theorem d18_9 : DAt B18 9 (.ireturn) 1 10 := ⟨by decide +kernel, rfl⟩
theorem d18_10 : DAt B18 10 (.aload_n 0) 1 11 := ⟨by decide +kernel, rfl⟩
theorem d18_11 : DAt B18 11 (.invokevirtual 63) 3 14 := ⟨by decide +kernel, rfl⟩
theorem d18_14 : DAt B18 14 (.aload_n 0) 1 15 := ⟨by decide +kernel, rfl⟩
theorem d18_15 : DAt B18 15 (.invokevirtual 83) 3 18 := ⟨by decide +kernel, rfl⟩
theorem d18_18 : DAt B18 18 (.aload_n 0) 1 19 := ⟨by decide +kernel, rfl⟩
theorem d18_19 : DAt B18 19 (.invokevirtual 75) 3 22 := ⟨by decide +kernel, rfl⟩
theorem d18_22 : DAt B18 22 (.istore_n 1) 1 23 := ⟨by decide +kernel, rfl⟩
theorem d18_23 : DAt B18 23 (.iload_n 1) 1 24 := ⟨by decide +kernel, rfl⟩
theorem d18_24 : DAt B18 24 (.ifCond .ge 11) 3 27 := ⟨by decide +kernel, rfl⟩
theorem d18_27 : DAt B18 27 (.aload_n 0) 1 28 := ⟨by decide +kernel, rfl⟩
theorem d18_28 : DAt B18 28 (.iconst 4) 1 29 := ⟨by decide +kernel, rfl⟩
theorem d18_29 : DAt B18 29 (.iconst (-1)) 1 30 := ⟨by decide +kernel, rfl⟩
theorem d18_30 : DAt B18 30 (.invokevirtual 79) 3 33 := ⟨by decide +kernel, rfl⟩
theorem d18_33 : DAt B18 33 (.iconst 4) 1 34 := ⟨by decide +kernel, rfl⟩
theorem d18_34 : DAt B18 34 (.ireturn) 1 35 := ⟨by decide +kernel, rfl⟩
theorem d18_35 : DAt B18 35 (.aload_n 0) 1 36 := ⟨by decide +kernel, rfl⟩
theorem d18_36 : DAt B18 36 (.iconst 3) 1 37 := ⟨by decide +kernel, rfl⟩
theorem d18_37 : DAt B18 37 (.iload_n 1) 1 38 := ⟨by decide +kernel, rfl⟩
theorem d18_38 : DAt B18 38 (.invokevirtual 79) 3 41 := ⟨by decide +kernel, rfl⟩
theorem d18_41 : DAt B18 41 (.iconst 3) 1 42 := ⟨by decide +kernel, rfl⟩
theorem d18_42 : DAt B18 42 (.ireturn) 1 43 := ⟨by decide +kernel, rfl⟩
def B12 : Bdy := ((⟨"SaturProver", "witness", "()I"⟩ : MethodName), prog_1_method_17_code, 1, (some .int), ({ frames := 0, cells := 0, slots := 0, locals := 0 } : Room))
theorem d12_0 : DAt B12 0 (.aload_n 0) 1 1 := ⟨by decide +kernel, rfl⟩
theorem d12_1 : DAt B12 1 (.getfield 92) 3 4 := ⟨by decide +kernel, rfl⟩
theorem d12_4 : DAt B12 4 (.ireturn) 1 5 := ⟨by decide +kernel, rfl⟩
def B36 : Bdy := ((⟨"SaturProver", "bitOfF", "(I)I"⟩ : MethodName), prog_1_method_33_code, 5, (some .int), ({ frames := 0, cells := 0, slots := 0, locals := 0 } : Room))
theorem d36_0 : DAt B36 0 (.iload_n 1) 1 1 := ⟨by decide +kernel, rfl⟩
theorem d36_1 : DAt B36 1 (.bipush 6) 2 3 := ⟨by decide +kernel, rfl⟩
theorem d36_3 : DAt B36 3 (.ishr) 1 4 := ⟨by decide +kernel, rfl⟩
theorem d36_4 : DAt B36 4 (.iconst 3) 1 5 := ⟨by decide +kernel, rfl⟩
theorem d36_5 : DAt B36 5 (.iand) 1 6 := ⟨by decide +kernel, rfl⟩
theorem d36_6 : DAt B36 6 (.istore_n 2) 1 7 := ⟨by decide +kernel, rfl⟩
theorem d36_7 : DAt B36 7 (.aload_n 0) 1 8 := ⟨by decide +kernel, rfl⟩
theorem d36_8 : DAt B36 8 (.getfield 20) 3 11 := ⟨by decide +kernel, rfl⟩
theorem d36_11 : DAt B36 11 (.iload_n 2) 1 12 := ⟨by decide +kernel, rfl⟩
theorem d36_12 : DAt B36 12 (.laload) 1 13 := ⟨by decide +kernel, rfl⟩
theorem d36_13 : DAt B36 13 (.lstore_n 3) 1 14 := ⟨by decide +kernel, rfl⟩
theorem d36_14 : DAt B36 14 (.lload_n 3) 1 15 := ⟨by decide +kernel, rfl⟩
theorem d36_15 : DAt B36 15 (.iload_n 1) 1 16 := ⟨by decide +kernel, rfl⟩
theorem d36_16 : DAt B36 16 (.bipush 63) 2 18 := ⟨by decide +kernel, rfl⟩
theorem d36_18 : DAt B36 18 (.iand) 1 19 := ⟨by decide +kernel, rfl⟩
theorem d36_19 : DAt B36 19 (.lushr) 1 20 := ⟨by decide +kernel, rfl⟩
theorem d36_20 : DAt B36 20 (.lconst 1) 1 21 := ⟨by decide +kernel, rfl⟩
theorem d36_21 : DAt B36 21 (.land) 1 22 := ⟨by decide +kernel, rfl⟩
theorem d36_22 : DAt B36 22 (.l2i) 1 23 := ⟨by decide +kernel, rfl⟩
theorem d36_23 : DAt B36 23 (.ireturn) 1 24 := ⟨by decide +kernel, rfl⟩
def B35 : Bdy := ((⟨"SaturProver", "evaluate", "(I)I"⟩ : MethodName), prog_1_method_12_code, 2, (some .int), ({ frames := 5, cells := 0, slots := 0, locals := 76 } : Room))
theorem d35_0 : DAt B35 0 (.iload_n 1) 1 1 := ⟨by decide +kernel, rfl⟩
theorem d35_1 : DAt B35 1 (.ifCond .lt 10) 3 4 := ⟨by decide +kernel, rfl⟩
theorem d35_4 : DAt B35 4 (.iload_n 1) 1 5 := ⟨by decide +kernel, rfl⟩
theorem d35_5 : DAt B35 5 (.sipush 255) 3 8 := ⟨by decide +kernel, rfl⟩
theorem d35_8 : DAt B35 8 (.if_icmp .le 5) 3 11 := ⟨by decide +kernel, rfl⟩
theorem d35_11 : DAt B35 11 (.iconst (-1)) 1 12 := ⟨by decide +kernel, rfl⟩
theorem d35_12 : DAt B35 12 (.ireturn) 1 13 := ⟨by decide +kernel, rfl⟩
theorem d35_13 : DAt B35 13 (.aload_n 0) 1 14 := ⟨by decide +kernel, rfl⟩
theorem d35_14 : DAt B35 14 (.invokevirtual 56) 3 17 := ⟨by decide +kernel, rfl⟩
theorem d35_17 : DAt B35 17 (.ifCond .ne 6) 3 20 := ⟨by decide +kernel, rfl⟩
theorem d35_20 : DAt B35 20 (.bipush (-5)) 2 22 := ⟨by decide +kernel, rfl⟩
theorem d35_22 : DAt B35 22 (.ireturn) 1 23 := ⟨by decide +kernel, rfl⟩
theorem d35_23 : DAt B35 23 (.aload_n 0) 1 24 := ⟨by decide +kernel, rfl⟩
theorem d35_24 : DAt B35 24 (.invokevirtual 63) 3 27 := ⟨by decide +kernel, rfl⟩
theorem d35_27 : DAt B35 27 (.aload_n 0) 1 28 := ⟨by decide +kernel, rfl⟩
theorem d35_28 : DAt B35 28 (.iload_n 1) 1 29 := ⟨by decide +kernel, rfl⟩
theorem d35_29 : DAt B35 29 (.invokevirtual 69) 3 32 := ⟨by decide +kernel, rfl⟩
theorem d35_32 : DAt B35 32 (.ireturn) 1 33 := ⟨by decide +kernel, rfl⟩
def B34 : Bdy := ((⟨"SaturProverL6", "allBefore", "(LSaturProver;II)Z"⟩ : MethodName), method_4_code, 4, (some .boolean), ({ frames := 6, cells := 0, slots := 0, locals := 89 } : Room))
theorem d34_0 : DAt B34 0 (.iconst 0) 1 1 := ⟨by decide +kernel, rfl⟩
theorem d34_1 : DAt B34 1 (.istore_n 3) 1 2 := ⟨by decide +kernel, rfl⟩
theorem d34_2 : DAt B34 2 (.iload_n 3) 1 3 := ⟨by decide +kernel, rfl⟩
theorem d34_3 : DAt B34 3 (.sipush 256) 3 6 := ⟨by decide +kernel, rfl⟩
theorem d34_6 : DAt B34 6 (.if_icmp .ge 25) 3 9 := ⟨by decide +kernel, rfl⟩
theorem d34_9 : DAt B34 9 (.iload_n 3) 1 10 := ⟨by decide +kernel, rfl⟩
theorem d34_10 : DAt B34 10 (.iload_n 1) 1 11 := ⟨by decide +kernel, rfl⟩
theorem d34_11 : DAt B34 11 (.if_icmp .ge 14) 3 14 := ⟨by decide +kernel, rfl⟩
theorem d34_14 : DAt B34 14 (.aload_n 0) 1 15 := ⟨by decide +kernel, rfl⟩
theorem d34_15 : DAt B34 15 (.iload_n 3) 1 16 := ⟨by decide +kernel, rfl⟩
theorem d34_16 : DAt B34 16 (.invokevirtual 9) 3 19 := ⟨by decide +kernel, rfl⟩
theorem d34_19 : DAt B34 19 (.iload_n 2) 1 20 := ⟨by decide +kernel, rfl⟩
theorem d34_20 : DAt B34 20 (.if_icmp .eq 5) 3 23 := ⟨by decide +kernel, rfl⟩
theorem d34_23 : DAt B34 23 (.iconst 0) 1 24 := ⟨by decide +kernel, rfl⟩
theorem d34_24 : DAt B34 24 (.ireturn) 1 25 := ⟨by decide +kernel, rfl⟩
theorem d34_25 : DAt B34 25 (.iinc 3 1) 3 28 := ⟨by decide +kernel, rfl⟩
theorem d34_28 : DAt B34 28 (.goto (-26)) 3 31 := ⟨by decide +kernel, rfl⟩
theorem d34_31 : DAt B34 31 (.iconst 1) 1 32 := ⟨by decide +kernel, rfl⟩
theorem d34_32 : DAt B34 32 (.ireturn) 1 33 := ⟨by decide +kernel, rfl⟩
def B38 : Bdy := ((⟨"SaturProver", "loadWorkDifference", "()V"⟩ : MethodName), prog_1_method_36_code, 2, none, ({ frames := 0, cells := 0, slots := 0, locals := 0 } : Room))
theorem d38_0 : DAt B38 0 (.iconst 0) 1 1 := ⟨by decide +kernel, rfl⟩
theorem d38_1 : DAt B38 1 (.istore_n 1) 1 2 := ⟨by decide +kernel, rfl⟩
theorem d38_2 : DAt B38 2 (.iload_n 1) 1 3 := ⟨by decide +kernel, rfl⟩
theorem d38_3 : DAt B38 3 (.iconst 4) 1 4 := ⟨by decide +kernel, rfl⟩
theorem d38_4 : DAt B38 4 (.if_icmp .ge 28) 3 7 := ⟨by decide +kernel, rfl⟩
theorem d38_7 : DAt B38 7 (.aload_n 0) 1 8 := ⟨by decide +kernel, rfl⟩
theorem d38_8 : DAt B38 8 (.getfield 26) 3 11 := ⟨by decide +kernel, rfl⟩
theorem d38_11 : DAt B38 11 (.iload_n 1) 1 12 := ⟨by decide +kernel, rfl⟩
theorem d38_12 : DAt B38 12 (.aload_n 0) 1 13 := ⟨by decide +kernel, rfl⟩
theorem d38_13 : DAt B38 13 (.getfield 20) 3 16 := ⟨by decide +kernel, rfl⟩
theorem d38_16 : DAt B38 16 (.iload_n 1) 1 17 := ⟨by decide +kernel, rfl⟩
theorem d38_17 : DAt B38 17 (.laload) 1 18 := ⟨by decide +kernel, rfl⟩
theorem d38_18 : DAt B38 18 (.aload_n 0) 1 19 := ⟨by decide +kernel, rfl⟩
theorem d38_19 : DAt B38 19 (.getfield 23) 3 22 := ⟨by decide +kernel, rfl⟩
theorem d38_22 : DAt B38 22 (.iload_n 1) 1 23 := ⟨by decide +kernel, rfl⟩
theorem d38_23 : DAt B38 23 (.laload) 1 24 := ⟨by decide +kernel, rfl⟩
theorem d38_24 : DAt B38 24 (.lxor) 1 25 := ⟨by decide +kernel, rfl⟩
theorem d38_25 : DAt B38 25 (.lastore) 1 26 := ⟨by decide +kernel, rfl⟩
theorem d38_26 : DAt B38 26 (.iinc 1 1) 3 29 := ⟨by decide +kernel, rfl⟩
theorem d38_29 : DAt B38 29 (.goto (-27)) 3 32 := ⟨by decide +kernel, rfl⟩
theorem d38_32 : DAt B38 32 (.return_) 1 33 := ⟨by decide +kernel, rfl⟩
def B28 : Bdy := ((⟨"SaturProver", "equivalent", "()I"⟩ : MethodName), prog_1_method_15_code, 2, (some .int), ({ frames := 5, cells := 0, slots := 0, locals := 76 } : Room))
theorem d28_0 : DAt B28 0 (.aload_n 0) 1 1 := ⟨by decide +kernel, rfl⟩
theorem d28_1 : DAt B28 1 (.invokevirtual 56) 3 4 := ⟨by decide +kernel, rfl⟩
theorem d28_4 : DAt B28 4 (.ifCond .ne 6) 3 7 := ⟨by decide +kernel, rfl⟩
theorem d28_7 : DAt B28 7 (.bipush (-5)) 2 9 := ⟨by decide +kernel, rfl⟩
theorem d28_9 : DAt B28 9 (.ireturn) 1 10 := ⟨by decide +kernel, rfl⟩
theorem d28_10 : DAt B28 10 (.aload_n 0) 1 11 := ⟨by decide +kernel, rfl⟩
theorem d28_11 : DAt B28 11 (.getfield 42) 3 14 := ⟨by decide +kernel, rfl⟩
theorem d28_14 : DAt B28 14 (.ifCond .ne 6) 3 17 := ⟨by decide +kernel, rfl⟩
theorem d28_17 : DAt B28 17 (.bipush (-6)) 2 19 := ⟨by decide +kernel, rfl⟩
theorem d28_19 : DAt B28 19 (.ireturn) 1 20 := ⟨by decide +kernel, rfl⟩
theorem d28_20 : DAt B28 20 (.aload_n 0) 1 21 := ⟨by decide +kernel, rfl⟩
theorem d28_21 : DAt B28 21 (.invokevirtual 63) 3 24 := ⟨by decide +kernel, rfl⟩
theorem d28_24 : DAt B28 24 (.aload_n 0) 1 25 := ⟨by decide +kernel, rfl⟩
theorem d28_25 : DAt B28 25 (.invokevirtual 86) 3 28 := ⟨by decide +kernel, rfl⟩
theorem d28_28 : DAt B28 28 (.aload_n 0) 1 29 := ⟨by decide +kernel, rfl⟩
theorem d28_29 : DAt B28 29 (.invokevirtual 75) 3 32 := ⟨by decide +kernel, rfl⟩
theorem d28_32 : DAt B28 32 (.istore_n 1) 1 33 := ⟨by decide +kernel, rfl⟩
theorem d28_33 : DAt B28 33 (.iload_n 1) 1 34 := ⟨by decide +kernel, rfl⟩
theorem d28_34 : DAt B28 34 (.ifCond .ge 11) 3 37 := ⟨by decide +kernel, rfl⟩
theorem d28_37 : DAt B28 37 (.aload_n 0) 1 38 := ⟨by decide +kernel, rfl⟩
theorem d28_38 : DAt B28 38 (.iconst 5) 1 39 := ⟨by decide +kernel, rfl⟩
theorem d28_39 : DAt B28 39 (.iconst (-1)) 1 40 := ⟨by decide +kernel, rfl⟩
theorem d28_40 : DAt B28 40 (.invokevirtual 79) 3 43 := ⟨by decide +kernel, rfl⟩
theorem d28_43 : DAt B28 43 (.iconst 5) 1 44 := ⟨by decide +kernel, rfl⟩
theorem d28_44 : DAt B28 44 (.ireturn) 1 45 := ⟨by decide +kernel, rfl⟩
theorem d28_45 : DAt B28 45 (.aload_n 0) 1 46 := ⟨by decide +kernel, rfl⟩
theorem d28_46 : DAt B28 46 (.bipush 6) 2 48 := ⟨by decide +kernel, rfl⟩
theorem d28_48 : DAt B28 48 (.iload_n 1) 1 49 := ⟨by decide +kernel, rfl⟩
theorem d28_49 : DAt B28 49 (.invokevirtual 79) 3 52 := ⟨by decide +kernel, rfl⟩
theorem d28_52 : DAt B28 52 (.bipush 6) 2 54 := ⟨by decide +kernel, rfl⟩
theorem d28_54 : DAt B28 54 (.ireturn) 1 55 := ⟨by decide +kernel, rfl⟩
def B6 : Bdy := ((⟨"SaturProver", "length", "()I"⟩ : MethodName), prog_1_method_6_code, 1, (some .int), ({ frames := 0, cells := 0, slots := 0, locals := 0 } : Room))
theorem d6_0 : DAt B6 0 (.aload_n 0) 1 1 := ⟨by decide +kernel, rfl⟩
theorem d6_1 : DAt B6 1 (.getfield 33) 3 4 := ⟨by decide +kernel, rfl⟩
theorem d6_4 : DAt B6 4 (.ireturn) 1 5 := ⟨by decide +kernel, rfl⟩
def B7 : Bdy := ((⟨"SaturProver", "depth", "()I"⟩ : MethodName), prog_1_method_8_code, 1, (some .int), ({ frames := 0, cells := 0, slots := 0, locals := 0 } : Room))
theorem d7_0 : DAt B7 0 (.aload_n 0) 1 1 := ⟨by decide +kernel, rfl⟩
theorem d7_1 : DAt B7 1 (.getfield 36) 3 4 := ⟨by decide +kernel, rfl⟩
theorem d7_4 : DAt B7 4 (.ireturn) 1 5 := ⟨by decide +kernel, rfl⟩
def B8 : Bdy := ((⟨"SaturProver", "isComplete", "()Z"⟩ : MethodName), prog_1_method_9_code, 1, (some .boolean), ({ frames := 1, cells := 0, slots := 0, locals := 12 } : Room))
theorem d8_0 : DAt B8 0 (.aload_n 0) 1 1 := ⟨by decide +kernel, rfl⟩
theorem d8_1 : DAt B8 1 (.invokevirtual 56) 3 4 := ⟨by decide +kernel, rfl⟩
theorem d8_4 : DAt B8 4 (.ireturn) 1 5 := ⟨by decide +kernel, rfl⟩
def B10 : Bdy := ((⟨"SaturProver", "savedLength", "()I"⟩ : MethodName), prog_1_method_7_code, 1, (some .int), ({ frames := 0, cells := 0, slots := 0, locals := 0 } : Room))
theorem d10_0 : DAt B10 0 (.aload_n 0) 1 1 := ⟨by decide +kernel, rfl⟩
theorem d10_1 : DAt B10 1 (.getfield 42) 3 4 := ⟨by decide +kernel, rfl⟩
theorem d10_4 : DAt B10 4 (.ifCond .ne 5) 3 7 := ⟨by decide +kernel, rfl⟩
theorem d10_7 : DAt B10 7 (.iconst 0) 1 8 := ⟨by decide +kernel, rfl⟩
theorem d10_8 : DAt B10 8 (.ireturn) 1 9 := ⟨by decide +kernel, rfl⟩
theorem d10_9 : DAt B10 9 (.aload_n 0) 1 10 := ⟨by decide +kernel, rfl⟩
theorem d10_10 : DAt B10 10 (.getfield 39) 3 13 := ⟨by decide +kernel, rfl⟩
theorem d10_13 : DAt B10 13 (.ireturn) 1 14 := ⟨by decide +kernel, rfl⟩
def B11 : Bdy := ((⟨"SaturProver", "lastResult", "()I"⟩ : MethodName), prog_1_method_16_code, 1, (some .int), ({ frames := 0, cells := 0, slots := 0, locals := 0 } : Room))
theorem d11_0 : DAt B11 0 (.aload_n 0) 1 1 := ⟨by decide +kernel, rfl⟩
theorem d11_1 : DAt B11 1 (.getfield 89) 3 4 := ⟨by decide +kernel, rfl⟩
theorem d11_4 : DAt B11 4 (.ireturn) 1 5 := ⟨by decide +kernel, rfl⟩
def B13 : Bdy := ((⟨"SaturProver", "usedVars", "()I"⟩ : MethodName), prog_1_method_11_code, 4, (some .int), ({ frames := 0, cells := 0, slots := 0, locals := 0 } : Room))
theorem d13_0 : DAt B13 0 (.iconst 0) 1 1 := ⟨by decide +kernel, rfl⟩
theorem d13_1 : DAt B13 1 (.istore_n 1) 1 2 := ⟨by decide +kernel, rfl⟩
theorem d13_2 : DAt B13 2 (.iconst 0) 1 3 := ⟨by decide +kernel, rfl⟩
theorem d13_3 : DAt B13 3 (.istore_n 2) 1 4 := ⟨by decide +kernel, rfl⟩
theorem d13_4 : DAt B13 4 (.iload_n 2) 1 5 := ⟨by decide +kernel, rfl⟩
theorem d13_5 : DAt B13 5 (.aload_n 0) 1 6 := ⟨by decide +kernel, rfl⟩
theorem d13_6 : DAt B13 6 (.getfield 33) 3 9 := ⟨by decide +kernel, rfl⟩
theorem d13_9 : DAt B13 9 (.if_icmp .ge 38) 3 12 := ⟨by decide +kernel, rfl⟩
theorem d13_12 : DAt B13 12 (.iload_n 2) 1 13 := ⟨by decide +kernel, rfl⟩
theorem d13_13 : DAt B13 13 (.bipush 32) 2 15 := ⟨by decide +kernel, rfl⟩
theorem d13_15 : DAt B13 15 (.if_icmp .ge 32) 3 18 := ⟨by decide +kernel, rfl⟩
theorem d13_18 : DAt B13 18 (.aload_n 0) 1 19 := ⟨by decide +kernel, rfl⟩
theorem d13_19 : DAt B13 19 (.getfield 7) 3 22 := ⟨by decide +kernel, rfl⟩
theorem d13_22 : DAt B13 22 (.iload_n 2) 1 23 := ⟨by decide +kernel, rfl⟩
theorem d13_23 : DAt B13 23 (.iaload) 1 24 := ⟨by decide +kernel, rfl⟩
theorem d13_24 : DAt B13 24 (.istore_n 3) 1 25 := ⟨by decide +kernel, rfl⟩
theorem d13_25 : DAt B13 25 (.iload_n 3) 1 26 := ⟨by decide +kernel, rfl⟩
theorem d13_26 : DAt B13 26 (.ifCond .lt 15) 3 29 := ⟨by decide +kernel, rfl⟩
theorem d13_29 : DAt B13 29 (.iload_n 3) 1 30 := ⟨by decide +kernel, rfl⟩
theorem d13_30 : DAt B13 30 (.bipush 8) 2 32 := ⟨by decide +kernel, rfl⟩
theorem d13_32 : DAt B13 32 (.if_icmp .ge 9) 3 35 := ⟨by decide +kernel, rfl⟩
theorem d13_35 : DAt B13 35 (.iload_n 1) 1 36 := ⟨by decide +kernel, rfl⟩
theorem d13_36 : DAt B13 36 (.iconst 1) 1 37 := ⟨by decide +kernel, rfl⟩
theorem d13_37 : DAt B13 37 (.iload_n 3) 1 38 := ⟨by decide +kernel, rfl⟩
theorem d13_38 : DAt B13 38 (.ishl) 1 39 := ⟨by decide +kernel, rfl⟩
theorem d13_39 : DAt B13 39 (.ior) 1 40 := ⟨by decide +kernel, rfl⟩
theorem d13_40 : DAt B13 40 (.istore_n 1) 1 41 := ⟨by decide +kernel, rfl⟩
theorem d13_41 : DAt B13 41 (.iinc 2 1) 3 44 := ⟨by decide +kernel, rfl⟩
theorem d13_44 : DAt B13 44 (.goto (-40)) 3 47 := ⟨by decide +kernel, rfl⟩
theorem d13_47 : DAt B13 47 (.iload_n 1) 1 48 := ⟨by decide +kernel, rfl⟩
theorem d13_48 : DAt B13 48 (.ireturn) 1 49 := ⟨by decide +kernel, rfl⟩
def B14 : Bdy := ((⟨"SaturProverL6", "usedOf", "(JI)I"⟩ : MethodName), method_3_code, 6, (some .int), ({ frames := 0, cells := 0, slots := 0, locals := 0 } : Room))
theorem d14_0 : DAt B14 0 (.iconst 0) 1 1 := ⟨by decide +kernel, rfl⟩
theorem d14_1 : DAt B14 1 (.istore_n 3) 1 2 := ⟨by decide +kernel, rfl⟩
theorem d14_2 : DAt B14 2 (.iconst 0) 1 3 := ⟨by decide +kernel, rfl⟩
theorem d14_3 : DAt B14 3 (.istore 4) 2 5 := ⟨by decide +kernel, rfl⟩
theorem d14_5 : DAt B14 5 (.iload 4) 2 7 := ⟨by decide +kernel, rfl⟩
theorem d14_7 : DAt B14 7 (.bipush 8) 2 9 := ⟨by decide +kernel, rfl⟩
theorem d14_9 : DAt B14 9 (.if_icmp .ge 42) 3 12 := ⟨by decide +kernel, rfl⟩
theorem d14_12 : DAt B14 12 (.iload 4) 2 14 := ⟨by decide +kernel, rfl⟩
theorem d14_14 : DAt B14 14 (.iload_n 2) 1 15 := ⟨by decide +kernel, rfl⟩
theorem d14_15 : DAt B14 15 (.if_icmp .ge 30) 3 18 := ⟨by decide +kernel, rfl⟩
theorem d14_18 : DAt B14 18 (.lload_n 0) 1 19 := ⟨by decide +kernel, rfl⟩
theorem d14_19 : DAt B14 19 (.iconst 4) 1 20 := ⟨by decide +kernel, rfl⟩
theorem d14_20 : DAt B14 20 (.iload 4) 2 22 := ⟨by decide +kernel, rfl⟩
theorem d14_22 : DAt B14 22 (.imul) 1 23 := ⟨by decide +kernel, rfl⟩
theorem d14_23 : DAt B14 23 (.lushr) 1 24 := ⟨by decide +kernel, rfl⟩
theorem d14_24 : DAt B14 24 (.ldc2_w 7) 3 27 := ⟨by decide +kernel, rfl⟩
theorem d14_27 : DAt B14 27 (.land) 1 28 := ⟨by decide +kernel, rfl⟩
theorem d14_28 : DAt B14 28 (.l2i) 1 29 := ⟨by decide +kernel, rfl⟩
theorem d14_29 : DAt B14 29 (.istore 5) 2 31 := ⟨by decide +kernel, rfl⟩
theorem d14_31 : DAt B14 31 (.iload 5) 2 33 := ⟨by decide +kernel, rfl⟩
theorem d14_33 : DAt B14 33 (.bipush 8) 2 35 := ⟨by decide +kernel, rfl⟩
theorem d14_35 : DAt B14 35 (.if_icmp .ge 10) 3 38 := ⟨by decide +kernel, rfl⟩
theorem d14_38 : DAt B14 38 (.iload_n 3) 1 39 := ⟨by decide +kernel, rfl⟩
theorem d14_39 : DAt B14 39 (.iconst 1) 1 40 := ⟨by decide +kernel, rfl⟩
theorem d14_40 : DAt B14 40 (.iload 5) 2 42 := ⟨by decide +kernel, rfl⟩
theorem d14_42 : DAt B14 42 (.ishl) 1 43 := ⟨by decide +kernel, rfl⟩
theorem d14_43 : DAt B14 43 (.ior) 1 44 := ⟨by decide +kernel, rfl⟩
theorem d14_44 : DAt B14 44 (.istore_n 3) 1 45 := ⟨by decide +kernel, rfl⟩
theorem d14_45 : DAt B14 45 (.iinc 4 1) 3 48 := ⟨by decide +kernel, rfl⟩
theorem d14_48 : DAt B14 48 (.goto (-43)) 3 51 := ⟨by decide +kernel, rfl⟩
theorem d14_51 : DAt B14 51 (.iload_n 3) 1 52 := ⟨by decide +kernel, rfl⟩
theorem d14_52 : DAt B14 52 (.ireturn) 1 53 := ⟨by decide +kernel, rfl⟩
def B15 : Bdy := ((⟨"SaturProver", "tokenAt", "(I)I"⟩ : MethodName), prog_1_method_10_code, 2, (some .int), ({ frames := 0, cells := 0, slots := 0, locals := 0 } : Room))
theorem d15_0 : DAt B15 0 (.iload_n 1) 1 1 := ⟨by decide +kernel, rfl⟩
theorem d15_1 : DAt B15 1 (.ifCond .lt 11) 3 4 := ⟨by decide +kernel, rfl⟩
theorem d15_4 : DAt B15 4 (.iload_n 1) 1 5 := ⟨by decide +kernel, rfl⟩
theorem d15_5 : DAt B15 5 (.aload_n 0) 1 6 := ⟨by decide +kernel, rfl⟩
theorem d15_6 : DAt B15 6 (.getfield 33) 3 9 := ⟨by decide +kernel, rfl⟩
theorem d15_9 : DAt B15 9 (.if_icmp .lt 5) 3 12 := ⟨by decide +kernel, rfl⟩
theorem d15_12 : DAt B15 12 (.iconst (-1)) 1 13 := ⟨by decide +kernel, rfl⟩
theorem d15_13 : DAt B15 13 (.ireturn) 1 14 := ⟨by decide +kernel, rfl⟩
theorem d15_14 : DAt B15 14 (.aload_n 0) 1 15 := ⟨by decide +kernel, rfl⟩
theorem d15_15 : DAt B15 15 (.getfield 7) 3 18 := ⟨by decide +kernel, rfl⟩
theorem d15_18 : DAt B15 18 (.iload_n 1) 1 19 := ⟨by decide +kernel, rfl⟩
theorem d15_19 : DAt B15 19 (.iaload) 1 20 := ⟨by decide +kernel, rfl⟩
theorem d15_20 : DAt B15 20 (.ireturn) 1 21 := ⟨by decide +kernel, rfl⟩
def B0 : Bdy := (x, code, maxLocals, ret, room_1)
theorem d0_0 : DAt B0 0 (.new 10) 3 3 := ⟨at_0, rfl⟩
theorem d0_3 : DAt B0 3 (.dup) 1 4 := ⟨at_3, rfl⟩
theorem d0_4 : DAt B0 4 (.iconst 3) 1 5 := ⟨at_4, rfl⟩
theorem d0_5 : DAt B0 5 (.invokespecial 15) 3 8 := ⟨at_5, rfl⟩
theorem d0_8 : DAt B0 8 (.astore_n 1) 1 9 := ⟨at_8, rfl⟩
theorem d0_9 : DAt B0 9 (.iconst 0) 1 10 := ⟨at_9, rfl⟩
theorem d0_10 : DAt B0 10 (.istore_n 2) 1 11 := ⟨at_10, rfl⟩
theorem d0_11 : DAt B0 11 (.iconst 0) 1 12 := ⟨at_11, rfl⟩
theorem d0_12 : DAt B0 12 (.istore_n 3) 1 13 := ⟨at_12, rfl⟩
theorem d0_13 : DAt B0 13 (.iconst 0) 1 14 := ⟨at_13, rfl⟩
theorem d0_14 : DAt B0 14 (.istore 4) 2 16 := ⟨at_14, rfl⟩
theorem d0_16 : DAt B0 16 (.iconst 0) 1 17 := ⟨at_16, rfl⟩
theorem d0_17 : DAt B0 17 (.istore 5) 2 19 := ⟨at_17, rfl⟩
theorem d0_19 : DAt B0 19 (.iconst (-1)) 1 20 := ⟨at_19, rfl⟩
theorem d0_20 : DAt B0 20 (.istore 6) 2 22 := ⟨at_20, rfl⟩
theorem d0_22 : DAt B0 22 (.lconst 0) 1 23 := ⟨at_22, rfl⟩
theorem d0_23 : DAt B0 23 (.lstore 7) 2 25 := ⟨at_23, rfl⟩
theorem d0_25 : DAt B0 25 (.lconst 0) 1 26 := ⟨at_25, rfl⟩
theorem d0_26 : DAt B0 26 (.lstore 9) 2 28 := ⟨at_26, rfl⟩
theorem d0_28 : DAt B0 28 (.iconst 0) 1 29 := ⟨at_28, rfl⟩
theorem d0_29 : DAt B0 29 (.istore 11) 2 31 := ⟨at_29, rfl⟩
theorem d0_31 : DAt B0 31 (.iconst 0) 1 32 := ⟨at_31, rfl⟩
theorem d0_32 : DAt B0 32 (.istore 12) 2 34 := ⟨at_32, rfl⟩
theorem d0_34 : DAt B0 34 (.iload 12) 2 36 := ⟨at_34, rfl⟩
theorem d0_36 : DAt B0 36 (.iconst 1) 1 37 := ⟨at_36, rfl⟩
theorem d0_37 : DAt B0 37 (.iadd) 1 38 := ⟨at_37, rfl⟩
theorem d0_38 : DAt B0 38 (.aload_n 0) 1 39 := ⟨at_38, rfl⟩
theorem d0_39 : DAt B0 39 (.arraylength) 1 40 := ⟨at_39, rfl⟩
theorem d0_40 : DAt B0 40 (.if_icmp .ge 707) 3 43 := ⟨at_40, rfl⟩
theorem d0_43 : DAt B0 43 (.aload_n 0) 1 44 := ⟨at_43, rfl⟩
theorem d0_44 : DAt B0 44 (.iload 12) 2 46 := ⟨at_44, rfl⟩
theorem d0_46 : DAt B0 46 (.iaload) 1 47 := ⟨at_46, rfl⟩
theorem d0_47 : DAt B0 47 (.bipush 15) 2 49 := ⟨at_47, rfl⟩
theorem d0_49 : DAt B0 49 (.iand) 1 50 := ⟨at_49, rfl⟩
theorem d0_50 : DAt B0 50 (.istore 13) 2 52 := ⟨at_50, rfl⟩
theorem d0_52 : DAt B0 52 (.aload_n 0) 1 53 := ⟨at_52, rfl⟩
theorem d0_53 : DAt B0 53 (.iload 12) 2 55 := ⟨at_53, rfl⟩
theorem d0_55 : DAt B0 55 (.iconst 1) 1 56 := ⟨at_55, rfl⟩
theorem d0_56 : DAt B0 56 (.iadd) 1 57 := ⟨at_56, rfl⟩
theorem d0_57 : DAt B0 57 (.iaload) 1 58 := ⟨at_57, rfl⟩
theorem d0_58 : DAt B0 58 (.ldc 18) 2 60 := ⟨at_58, rfl⟩
theorem d0_60 : DAt B0 60 (.iand) 1 61 := ⟨at_60, rfl⟩
theorem d0_61 : DAt B0 61 (.istore 14) 2 63 := ⟨at_61, rfl⟩
theorem d0_63 : DAt B0 63 (.iload 13) 2 65 := ⟨at_63, rfl⟩
theorem d0_65 : DAt B0 65 (.bipush 6) 2 67 := ⟨at_65, rfl⟩
theorem d0_67 : DAt B0 67 (.if_icmp .gt 105) 3 70 := ⟨at_67, rfl⟩
theorem d0_70 : DAt B0 70 (.iload 14) 2 72 := ⟨at_70, rfl⟩
theorem d0_72 : DAt B0 72 (.bipush 17) 2 74 := ⟨at_72, rfl⟩
theorem d0_74 : DAt B0 74 (.irem) 1 75 := ⟨at_74, rfl⟩
theorem d0_75 : DAt B0 75 (.istore 15) 2 77 := ⟨at_75, rfl⟩
theorem d0_77 : DAt B0 77 (.aload_n 1) 1 78 := ⟨at_77, rfl⟩
theorem d0_78 : DAt B0 78 (.iload 15) 2 80 := ⟨at_78, rfl⟩
theorem d0_80 : DAt B0 80 (.invokevirtual 19) 3 83 := ⟨at_80, rfl⟩
theorem d0_83 : DAt B0 83 (.istore 16) 2 85 := ⟨at_83, rfl⟩
theorem d0_85 : DAt B0 85 (.iload 15) 2 87 := ⟨at_85, rfl⟩
theorem d0_87 : DAt B0 87 (.bipush 15) 2 89 := ⟨at_87, rfl⟩
theorem d0_89 : DAt B0 89 (.if_icmp .le 7) 3 92 := ⟨at_89, rfl⟩
theorem d0_92 : DAt B0 92 (.iconst (-1)) 1 93 := ⟨at_92, rfl⟩
theorem d0_93 : DAt B0 93 (.goto 29) 3 96 := ⟨at_93, rfl⟩
theorem d0_96 : DAt B0 96 (.iload_n 2) 1 97 := ⟨at_96, rfl⟩
theorem d0_97 : DAt B0 97 (.bipush 8) 2 99 := ⟨at_97, rfl⟩
theorem d0_99 : DAt B0 99 (.if_icmp .ne 8) 3 102 := ⟨at_99, rfl⟩
theorem d0_102 : DAt B0 102 (.bipush (-2)) 2 104 := ⟨at_102, rfl⟩
theorem d0_104 : DAt B0 104 (.goto 18) 3 107 := ⟨at_104, rfl⟩
theorem d0_107 : DAt B0 107 (.iload 15) 2 109 := ⟨at_107, rfl⟩
theorem d0_109 : DAt B0 109 (.invokestatic 22) 3 112 := ⟨at_109, rfl⟩
theorem d0_112 : DAt B0 112 (.iload_n 3) 1 113 := ⟨at_112, rfl⟩
theorem d0_113 : DAt B0 113 (.if_icmp .le 8) 3 116 := ⟨at_113, rfl⟩
theorem d0_116 : DAt B0 116 (.bipush (-3)) 2 118 := ⟨at_116, rfl⟩
theorem d0_118 : DAt B0 118 (.goto 4) 3 121 := ⟨at_118, rfl⟩
theorem d0_121 : DAt B0 121 (.iconst 0) 1 122 := ⟨at_121, rfl⟩
theorem d0_122 : DAt B0 122 (.istore 17) 2 124 := ⟨at_122, rfl⟩
theorem d0_124 : DAt B0 124 (.iload 16) 2 126 := ⟨at_124, rfl⟩
theorem d0_126 : DAt B0 126 (.iload 17) 2 128 := ⟨at_126, rfl⟩
theorem d0_128 : DAt B0 128 (.if_icmp .eq 5) 3 131 := ⟨at_128, rfl⟩
theorem d0_131 : DAt B0 131 (.iconst 0) 1 132 := ⟨at_131, rfl⟩
theorem d0_132 : DAt B0 132 (.ireturn) 1 133 := ⟨at_132, rfl⟩
theorem d0_133 : DAt B0 133 (.iload 17) 2 135 := ⟨at_133, rfl⟩
theorem d0_135 : DAt B0 135 (.ifCond .ne 34) 3 138 := ⟨at_135, rfl⟩
theorem d0_138 : DAt B0 138 (.lload 7) 2 140 := ⟨at_138, rfl⟩
theorem d0_140 : DAt B0 140 (.iload 15) 2 142 := ⟨at_140, rfl⟩
theorem d0_142 : DAt B0 142 (.i2l) 1 143 := ⟨at_142, rfl⟩
theorem d0_143 : DAt B0 143 (.iconst 4) 1 144 := ⟨at_143, rfl⟩
theorem d0_144 : DAt B0 144 (.iload_n 2) 1 145 := ⟨at_144, rfl⟩
theorem d0_145 : DAt B0 145 (.imul) 1 146 := ⟨at_145, rfl⟩
theorem d0_146 : DAt B0 146 (.lshl) 1 147 := ⟨at_146, rfl⟩
theorem d0_147 : DAt B0 147 (.lor) 1 148 := ⟨at_147, rfl⟩
theorem d0_148 : DAt B0 148 (.lstore 7) 2 150 := ⟨at_148, rfl⟩
theorem d0_150 : DAt B0 150 (.iinc 2 1) 3 153 := ⟨at_150, rfl⟩
theorem d0_153 : DAt B0 153 (.iload_n 3) 1 154 := ⟨at_153, rfl⟩
theorem d0_154 : DAt B0 154 (.iconst 1) 1 155 := ⟨at_154, rfl⟩
theorem d0_155 : DAt B0 155 (.iload 15) 2 157 := ⟨at_155, rfl⟩
theorem d0_157 : DAt B0 157 (.invokestatic 22) 3 160 := ⟨at_157, rfl⟩
theorem d0_160 : DAt B0 160 (.isub) 1 161 := ⟨at_160, rfl⟩
theorem d0_161 : DAt B0 161 (.iadd) 1 162 := ⟨at_161, rfl⟩
theorem d0_162 : DAt B0 162 (.istore_n 3) 1 163 := ⟨at_162, rfl⟩
theorem d0_163 : DAt B0 163 (.iconst 0) 1 164 := ⟨at_163, rfl⟩
theorem d0_164 : DAt B0 164 (.istore 5) 2 166 := ⟨at_164, rfl⟩
theorem d0_166 : DAt B0 166 (.iconst (-1)) 1 167 := ⟨at_166, rfl⟩
theorem d0_167 : DAt B0 167 (.istore 6) 2 169 := ⟨at_167, rfl⟩
theorem d0_169 : DAt B0 169 (.goto 453) 3 172 := ⟨at_169, rfl⟩
theorem d0_172 : DAt B0 172 (.iload 13) 2 174 := ⟨at_172, rfl⟩
theorem d0_174 : DAt B0 174 (.bipush 7) 2 176 := ⟨at_174, rfl⟩
theorem d0_176 : DAt B0 176 (.if_icmp .ne 80) 3 179 := ⟨at_176, rfl⟩
theorem d0_179 : DAt B0 179 (.aload_n 1) 1 180 := ⟨at_179, rfl⟩
theorem d0_180 : DAt B0 180 (.invokevirtual 27) 3 183 := ⟨at_180, rfl⟩
theorem d0_183 : DAt B0 183 (.istore 15) 2 185 := ⟨at_183, rfl⟩
theorem d0_185 : DAt B0 185 (.iload_n 2) 1 186 := ⟨at_185, rfl⟩
theorem d0_186 : DAt B0 186 (.ifCond .ne 12) 3 189 := ⟨at_186, rfl⟩
theorem d0_189 : DAt B0 189 (.iload 15) 2 191 := ⟨at_189, rfl⟩
theorem d0_191 : DAt B0 191 (.bipush (-4)) 2 193 := ⟨at_191, rfl⟩
theorem d0_193 : DAt B0 193 (.if_icmp .eq 60) 3 196 := ⟨at_193, rfl⟩
theorem d0_196 : DAt B0 196 (.iconst 0) 1 197 := ⟨at_196, rfl⟩
theorem d0_197 : DAt B0 197 (.ireturn) 1 198 := ⟨at_197, rfl⟩
theorem d0_198 : DAt B0 198 (.iload 15) 2 200 := ⟨at_198, rfl⟩
theorem d0_200 : DAt B0 200 (.ifCond .eq 5) 3 203 := ⟨at_200, rfl⟩
theorem d0_203 : DAt B0 203 (.iconst 0) 1 204 := ⟨at_203, rfl⟩
theorem d0_204 : DAt B0 204 (.ireturn) 1 205 := ⟨at_204, rfl⟩
theorem d0_205 : DAt B0 205 (.iinc 2 (-1)) 3 208 := ⟨at_205, rfl⟩
theorem d0_208 : DAt B0 208 (.lload 7) 2 210 := ⟨at_208, rfl⟩
theorem d0_210 : DAt B0 210 (.iconst 4) 1 211 := ⟨at_210, rfl⟩
theorem d0_211 : DAt B0 211 (.iload_n 2) 1 212 := ⟨at_211, rfl⟩
theorem d0_212 : DAt B0 212 (.imul) 1 213 := ⟨at_212, rfl⟩
theorem d0_213 : DAt B0 213 (.lushr) 1 214 := ⟨at_213, rfl⟩
theorem d0_214 : DAt B0 214 (.ldc2_w 7) 3 217 := ⟨at_214, rfl⟩
theorem d0_217 : DAt B0 217 (.land) 1 218 := ⟨at_217, rfl⟩
theorem d0_218 : DAt B0 218 (.l2i) 1 219 := ⟨at_218, rfl⟩
theorem d0_219 : DAt B0 219 (.istore 16) 2 221 := ⟨at_219, rfl⟩
theorem d0_221 : DAt B0 221 (.lload 7) 2 223 := ⟨at_221, rfl⟩
theorem d0_223 : DAt B0 223 (.ldc2_w 7) 3 226 := ⟨at_223, rfl⟩
theorem d0_226 : DAt B0 226 (.iconst 4) 1 227 := ⟨at_226, rfl⟩
theorem d0_227 : DAt B0 227 (.iload_n 2) 1 228 := ⟨at_227, rfl⟩
theorem d0_228 : DAt B0 228 (.imul) 1 229 := ⟨at_228, rfl⟩
theorem d0_229 : DAt B0 229 (.lshl) 1 230 := ⟨at_229, rfl⟩
theorem d0_230 : DAt B0 230 (.ldc2_w 31) 3 233 := ⟨at_230, rfl⟩
theorem d0_233 : DAt B0 233 (.lxor) 1 234 := ⟨at_233, rfl⟩
theorem d0_234 : DAt B0 234 (.land) 1 235 := ⟨at_234, rfl⟩
theorem d0_235 : DAt B0 235 (.lstore 7) 2 237 := ⟨at_235, rfl⟩
theorem d0_237 : DAt B0 237 (.iload_n 3) 1 238 := ⟨at_237, rfl⟩
theorem d0_238 : DAt B0 238 (.iconst 1) 1 239 := ⟨at_238, rfl⟩
theorem d0_239 : DAt B0 239 (.iload 16) 2 241 := ⟨at_239, rfl⟩
theorem d0_241 : DAt B0 241 (.invokestatic 22) 3 244 := ⟨at_241, rfl⟩
theorem d0_244 : DAt B0 244 (.isub) 1 245 := ⟨at_244, rfl⟩
theorem d0_245 : DAt B0 245 (.isub) 1 246 := ⟨at_245, rfl⟩
theorem d0_246 : DAt B0 246 (.istore_n 3) 1 247 := ⟨at_246, rfl⟩
theorem d0_247 : DAt B0 247 (.iconst 0) 1 248 := ⟨at_247, rfl⟩
theorem d0_248 : DAt B0 248 (.istore 5) 2 250 := ⟨at_248, rfl⟩
theorem d0_250 : DAt B0 250 (.iconst (-1)) 1 251 := ⟨at_250, rfl⟩
theorem d0_251 : DAt B0 251 (.istore 6) 2 253 := ⟨at_251, rfl⟩
theorem d0_253 : DAt B0 253 (.goto 369) 3 256 := ⟨at_253, rfl⟩
theorem d0_256 : DAt B0 256 (.iload 13) 2 258 := ⟨at_256, rfl⟩
theorem d0_258 : DAt B0 258 (.bipush 8) 2 260 := ⟨at_258, rfl⟩
theorem d0_260 : DAt B0 260 (.if_icmp .ne 23) 3 263 := ⟨at_260, rfl⟩
theorem d0_263 : DAt B0 263 (.aload_n 1) 1 264 := ⟨at_263, rfl⟩
theorem d0_264 : DAt B0 264 (.invokevirtual 33) 3 267 := ⟨at_264, rfl⟩
theorem d0_267 : DAt B0 267 (.iconst 0) 1 268 := ⟨at_267, rfl⟩
theorem d0_268 : DAt B0 268 (.istore_n 2) 1 269 := ⟨at_268, rfl⟩
theorem d0_269 : DAt B0 269 (.iconst 0) 1 270 := ⟨at_269, rfl⟩
theorem d0_270 : DAt B0 270 (.istore_n 3) 1 271 := ⟨at_270, rfl⟩
theorem d0_271 : DAt B0 271 (.lconst 0) 1 272 := ⟨at_271, rfl⟩
theorem d0_272 : DAt B0 272 (.lstore 7) 2 274 := ⟨at_272, rfl⟩
theorem d0_274 : DAt B0 274 (.iconst 0) 1 275 := ⟨at_274, rfl⟩
theorem d0_275 : DAt B0 275 (.istore 5) 2 277 := ⟨at_275, rfl⟩
theorem d0_277 : DAt B0 277 (.iconst (-1)) 1 278 := ⟨at_277, rfl⟩
theorem d0_278 : DAt B0 278 (.istore 6) 2 280 := ⟨at_278, rfl⟩
theorem d0_280 : DAt B0 280 (.goto 342) 3 283 := ⟨at_280, rfl⟩
theorem d0_283 : DAt B0 283 (.iload 13) 2 285 := ⟨at_283, rfl⟩
theorem d0_285 : DAt B0 285 (.bipush 10) 2 287 := ⟨at_285, rfl⟩
theorem d0_287 : DAt B0 287 (.if_icmp .gt 49) 3 290 := ⟨at_287, rfl⟩
theorem d0_290 : DAt B0 290 (.aload_n 1) 1 291 := ⟨at_290, rfl⟩
theorem d0_291 : DAt B0 291 (.invokevirtual 36) 3 294 := ⟨at_291, rfl⟩
theorem d0_294 : DAt B0 294 (.istore 15) 2 296 := ⟨at_294, rfl⟩
theorem d0_296 : DAt B0 296 (.iload_n 3) 1 297 := ⟨at_296, rfl⟩
theorem d0_297 : DAt B0 297 (.iconst 1) 1 298 := ⟨at_297, rfl⟩
theorem d0_298 : DAt B0 298 (.if_icmp .eq 12) 3 301 := ⟨at_298, rfl⟩
theorem d0_301 : DAt B0 301 (.iload 15) 2 303 := ⟨at_301, rfl⟩
theorem d0_303 : DAt B0 303 (.bipush (-5)) 2 305 := ⟨at_303, rfl⟩
theorem d0_305 : DAt B0 305 (.if_icmp .eq 28) 3 308 := ⟨at_305, rfl⟩
theorem d0_308 : DAt B0 308 (.iconst 0) 1 309 := ⟨at_308, rfl⟩
theorem d0_309 : DAt B0 309 (.ireturn) 1 310 := ⟨at_309, rfl⟩
theorem d0_310 : DAt B0 310 (.iload 15) 2 312 := ⟨at_310, rfl⟩
theorem d0_312 : DAt B0 312 (.ifCond .eq 5) 3 315 := ⟨at_312, rfl⟩
theorem d0_315 : DAt B0 315 (.iconst 0) 1 316 := ⟨at_315, rfl⟩
theorem d0_316 : DAt B0 316 (.ireturn) 1 317 := ⟨at_316, rfl⟩
theorem d0_317 : DAt B0 317 (.lload 7) 2 319 := ⟨at_317, rfl⟩
theorem d0_319 : DAt B0 319 (.lstore 9) 2 321 := ⟨at_319, rfl⟩
theorem d0_321 : DAt B0 321 (.iload_n 2) 1 322 := ⟨at_321, rfl⟩
theorem d0_322 : DAt B0 322 (.istore 4) 2 324 := ⟨at_322, rfl⟩
theorem d0_324 : DAt B0 324 (.iconst 1) 1 325 := ⟨at_324, rfl⟩
theorem d0_325 : DAt B0 325 (.istore 11) 2 327 := ⟨at_325, rfl⟩
theorem d0_327 : DAt B0 327 (.iconst 0) 1 328 := ⟨at_327, rfl⟩
theorem d0_328 : DAt B0 328 (.istore 5) 2 330 := ⟨at_328, rfl⟩
theorem d0_330 : DAt B0 330 (.iconst (-1)) 1 331 := ⟨at_330, rfl⟩
theorem d0_331 : DAt B0 331 (.istore 6) 2 333 := ⟨at_331, rfl⟩
theorem d0_333 : DAt B0 333 (.goto 289) 3 336 := ⟨at_333, rfl⟩
theorem d0_336 : DAt B0 336 (.iload 13) 2 338 := ⟨at_336, rfl⟩
theorem d0_338 : DAt B0 338 (.bipush 14) 2 340 := ⟨at_338, rfl⟩
theorem d0_340 : DAt B0 340 (.if_icmp .gt 175) 3 343 := ⟨at_340, rfl⟩
theorem d0_343 : DAt B0 343 (.iload 13) 2 345 := ⟨at_343, rfl⟩
theorem d0_345 : DAt B0 345 (.bipush 12) 2 347 := ⟨at_345, rfl⟩
theorem d0_347 : DAt B0 347 (.if_icmp .gt 7) 3 350 := ⟨at_347, rfl⟩
theorem d0_350 : DAt B0 350 (.iconst 1) 1 351 := ⟨at_350, rfl⟩
theorem d0_351 : DAt B0 351 (.goto 4) 3 354 := ⟨at_351, rfl⟩
theorem d0_354 : DAt B0 354 (.iconst 0) 1 355 := ⟨at_354, rfl⟩
theorem d0_355 : DAt B0 355 (.istore 15) 2 357 := ⟨at_355, rfl⟩
theorem d0_357 : DAt B0 357 (.iload 15) 2 359 := ⟨at_357, rfl⟩
theorem d0_359 : DAt B0 359 (.ifCond .eq 10) 3 362 := ⟨at_359, rfl⟩
theorem d0_362 : DAt B0 362 (.aload_n 1) 1 363 := ⟨at_362, rfl⟩
theorem d0_363 : DAt B0 363 (.invokevirtual 39) 3 366 := ⟨at_363, rfl⟩
theorem d0_366 : DAt B0 366 (.goto 7) 3 369 := ⟨at_366, rfl⟩
theorem d0_369 : DAt B0 369 (.aload_n 1) 1 370 := ⟨at_369, rfl⟩
theorem d0_370 : DAt B0 370 (.invokevirtual 42) 3 373 := ⟨at_370, rfl⟩
theorem d0_373 : DAt B0 373 (.istore 16) 2 375 := ⟨at_373, rfl⟩
theorem d0_375 : DAt B0 375 (.iload_n 3) 1 376 := ⟨at_375, rfl⟩
theorem d0_376 : DAt B0 376 (.iconst 1) 1 377 := ⟨at_376, rfl⟩
theorem d0_377 : DAt B0 377 (.if_icmp .eq 12) 3 380 := ⟨at_377, rfl⟩
theorem d0_380 : DAt B0 380 (.iload 16) 2 382 := ⟨at_380, rfl⟩
theorem d0_382 : DAt B0 382 (.bipush (-5)) 2 384 := ⟨at_382, rfl⟩
theorem d0_384 : DAt B0 384 (.if_icmp .eq 128) 3 387 := ⟨at_384, rfl⟩
theorem d0_387 : DAt B0 387 (.iconst 0) 1 388 := ⟨at_387, rfl⟩
theorem d0_388 : DAt B0 388 (.ireturn) 1 389 := ⟨at_388, rfl⟩
theorem d0_389 : DAt B0 389 (.iload 15) 2 391 := ⟨at_389, rfl⟩
theorem d0_391 : DAt B0 391 (.ifCond .eq 7) 3 394 := ⟨at_391, rfl⟩
theorem d0_394 : DAt B0 394 (.iconst 1) 1 395 := ⟨at_394, rfl⟩
theorem d0_395 : DAt B0 395 (.goto 4) 3 398 := ⟨at_395, rfl⟩
theorem d0_398 : DAt B0 398 (.iconst 4) 1 399 := ⟨at_398, rfl⟩
theorem d0_399 : DAt B0 399 (.istore 17) 2 401 := ⟨at_399, rfl⟩
theorem d0_401 : DAt B0 401 (.iload 15) 2 403 := ⟨at_401, rfl⟩
theorem d0_403 : DAt B0 403 (.ifCond .eq 7) 3 406 := ⟨at_403, rfl⟩
theorem d0_406 : DAt B0 406 (.iconst 2) 1 407 := ⟨at_406, rfl⟩
theorem d0_407 : DAt B0 407 (.goto 4) 3 410 := ⟨at_407, rfl⟩
theorem d0_410 : DAt B0 410 (.iconst 3) 1 411 := ⟨at_410, rfl⟩
theorem d0_411 : DAt B0 411 (.istore 18) 2 413 := ⟨at_411, rfl⟩
theorem d0_413 : DAt B0 413 (.iload 15) 2 415 := ⟨at_413, rfl⟩
theorem d0_415 : DAt B0 415 (.ifCond .eq 7) 3 418 := ⟨at_415, rfl⟩
theorem d0_418 : DAt B0 418 (.iconst 1) 1 419 := ⟨at_418, rfl⟩
theorem d0_419 : DAt B0 419 (.goto 4) 3 422 := ⟨at_419, rfl⟩
theorem d0_422 : DAt B0 422 (.iconst 0) 1 423 := ⟨at_422, rfl⟩
theorem d0_423 : DAt B0 423 (.istore 19) 2 425 := ⟨at_423, rfl⟩
theorem d0_425 : DAt B0 425 (.aload_n 1) 1 426 := ⟨at_425, rfl⟩
theorem d0_426 : DAt B0 426 (.invokevirtual 45) 3 429 := ⟨at_426, rfl⟩
theorem d0_429 : DAt B0 429 (.istore 20) 2 431 := ⟨at_429, rfl⟩
theorem d0_431 : DAt B0 431 (.iload 16) 2 433 := ⟨at_431, rfl⟩
theorem d0_433 : DAt B0 433 (.iload 17) 2 435 := ⟨at_433, rfl⟩
theorem d0_435 : DAt B0 435 (.if_icmp .ne 23) 3 438 := ⟨at_435, rfl⟩
theorem d0_438 : DAt B0 438 (.iload 20) 2 440 := ⟨at_438, rfl⟩
theorem d0_440 : DAt B0 440 (.iconst (-1)) 1 441 := ⟨at_440, rfl⟩
theorem d0_441 : DAt B0 441 (.if_icmp .ne 15) 3 444 := ⟨at_441, rfl⟩
theorem d0_444 : DAt B0 444 (.aload_n 1) 1 445 := ⟨at_444, rfl⟩
theorem d0_445 : DAt B0 445 (.sipush 256) 3 448 := ⟨at_445, rfl⟩
theorem d0_448 : DAt B0 448 (.iload 19) 2 450 := ⟨at_448, rfl⟩
theorem d0_450 : DAt B0 450 (.invokestatic 48) 3 453 := ⟨at_450, rfl⟩
theorem d0_453 : DAt B0 453 (.ifCond .ne 51) 3 456 := ⟨at_453, rfl⟩
theorem d0_456 : DAt B0 456 (.iconst 0) 1 457 := ⟨at_456, rfl⟩
theorem d0_457 : DAt B0 457 (.ireturn) 1 458 := ⟨at_457, rfl⟩
theorem d0_458 : DAt B0 458 (.iload 16) 2 460 := ⟨at_458, rfl⟩
theorem d0_460 : DAt B0 460 (.iload 18) 2 462 := ⟨at_460, rfl⟩
theorem d0_462 : DAt B0 462 (.if_icmp .ne 40) 3 465 := ⟨at_462, rfl⟩
theorem d0_465 : DAt B0 465 (.iload 20) 2 467 := ⟨at_465, rfl⟩
theorem d0_467 : DAt B0 467 (.ifCond .lt 33) 3 470 := ⟨at_467, rfl⟩
theorem d0_470 : DAt B0 470 (.iload 20) 2 472 := ⟨at_470, rfl⟩
theorem d0_472 : DAt B0 472 (.sipush 255) 3 475 := ⟨at_472, rfl⟩
theorem d0_475 : DAt B0 475 (.if_icmp .gt 25) 3 478 := ⟨at_475, rfl⟩
theorem d0_478 : DAt B0 478 (.aload_n 1) 1 479 := ⟨at_478, rfl⟩
theorem d0_479 : DAt B0 479 (.iload 20) 2 481 := ⟨at_479, rfl⟩
theorem d0_481 : DAt B0 481 (.iload 19) 2 483 := ⟨at_481, rfl⟩
theorem d0_483 : DAt B0 483 (.invokestatic 48) 3 486 := ⟨at_483, rfl⟩
theorem d0_486 : DAt B0 486 (.ifCond .eq 14) 3 489 := ⟨at_486, rfl⟩
theorem d0_489 : DAt B0 489 (.aload_n 1) 1 490 := ⟨at_489, rfl⟩
theorem d0_490 : DAt B0 490 (.iload 20) 2 492 := ⟨at_490, rfl⟩
theorem d0_492 : DAt B0 492 (.invokevirtual 9) 3 495 := ⟨at_492, rfl⟩
theorem d0_495 : DAt B0 495 (.iload 19) 2 497 := ⟨at_495, rfl⟩
theorem d0_497 : DAt B0 497 (.if_icmp .ne 7) 3 500 := ⟨at_497, rfl⟩
theorem d0_500 : DAt B0 500 (.iconst 0) 1 501 := ⟨at_500, rfl⟩
theorem d0_501 : DAt B0 501 (.ireturn) 1 502 := ⟨at_501, rfl⟩
theorem d0_502 : DAt B0 502 (.iconst 0) 1 503 := ⟨at_502, rfl⟩
theorem d0_503 : DAt B0 503 (.ireturn) 1 504 := ⟨at_503, rfl⟩
theorem d0_504 : DAt B0 504 (.iload 16) 2 506 := ⟨at_504, rfl⟩
theorem d0_506 : DAt B0 506 (.istore 5) 2 508 := ⟨at_506, rfl⟩
theorem d0_508 : DAt B0 508 (.iload 20) 2 510 := ⟨at_508, rfl⟩
theorem d0_510 : DAt B0 510 (.istore 6) 2 512 := ⟨at_510, rfl⟩
theorem d0_512 : DAt B0 512 (.goto 110) 3 515 := ⟨at_512, rfl⟩
theorem d0_515 : DAt B0 515 (.aload_n 1) 1 516 := ⟨at_515, rfl⟩
theorem d0_516 : DAt B0 516 (.invokevirtual 52) 3 519 := ⟨at_516, rfl⟩
theorem d0_519 : DAt B0 519 (.istore 15) 2 521 := ⟨at_519, rfl⟩
theorem d0_521 : DAt B0 521 (.iload_n 3) 1 522 := ⟨at_521, rfl⟩
theorem d0_522 : DAt B0 522 (.iconst 1) 1 523 := ⟨at_522, rfl⟩
theorem d0_523 : DAt B0 523 (.if_icmp .eq 8) 3 526 := ⟨at_523, rfl⟩
theorem d0_526 : DAt B0 526 (.bipush (-5)) 2 528 := ⟨at_526, rfl⟩
theorem d0_528 : DAt B0 528 (.goto 14) 3 531 := ⟨at_528, rfl⟩
theorem d0_531 : DAt B0 531 (.iload 11) 2 533 := ⟨at_531, rfl⟩
theorem d0_533 : DAt B0 533 (.ifCond .ne 8) 3 536 := ⟨at_533, rfl⟩
theorem d0_536 : DAt B0 536 (.bipush (-6)) 2 538 := ⟨at_536, rfl⟩
theorem d0_538 : DAt B0 538 (.goto 4) 3 541 := ⟨at_538, rfl⟩
theorem d0_541 : DAt B0 541 (.iconst 0) 1 542 := ⟨at_541, rfl⟩
theorem d0_542 : DAt B0 542 (.istore 16) 2 544 := ⟨at_542, rfl⟩
theorem d0_544 : DAt B0 544 (.iload 16) 2 546 := ⟨at_544, rfl⟩
theorem d0_546 : DAt B0 546 (.ifCond .eq 12) 3 549 := ⟨at_546, rfl⟩
theorem d0_549 : DAt B0 549 (.iload 15) 2 551 := ⟨at_549, rfl⟩
theorem d0_551 : DAt B0 551 (.iload 16) 2 553 := ⟨at_551, rfl⟩
theorem d0_553 : DAt B0 553 (.if_icmp .eq 69) 3 556 := ⟨at_553, rfl⟩
theorem d0_556 : DAt B0 556 (.iconst 0) 1 557 := ⟨at_556, rfl⟩
theorem d0_557 : DAt B0 557 (.ireturn) 1 558 := ⟨at_557, rfl⟩
theorem d0_558 : DAt B0 558 (.aload_n 1) 1 559 := ⟨at_558, rfl⟩
theorem d0_559 : DAt B0 559 (.invokevirtual 45) 3 562 := ⟨at_559, rfl⟩
theorem d0_562 : DAt B0 562 (.istore 17) 2 564 := ⟨at_562, rfl⟩
theorem d0_564 : DAt B0 564 (.iload 15) 2 566 := ⟨at_564, rfl⟩
theorem d0_566 : DAt B0 566 (.iconst 5) 1 567 := ⟨at_566, rfl⟩
theorem d0_567 : DAt B0 567 (.if_icmp .ne 11) 3 570 := ⟨at_567, rfl⟩
theorem d0_570 : DAt B0 570 (.iload 17) 2 572 := ⟨at_570, rfl⟩
theorem d0_572 : DAt B0 572 (.iconst (-1)) 1 573 := ⟨at_572, rfl⟩
theorem d0_573 : DAt B0 573 (.if_icmp .eq 41) 3 576 := ⟨at_573, rfl⟩
theorem d0_576 : DAt B0 576 (.iconst 0) 1 577 := ⟨at_576, rfl⟩
theorem d0_577 : DAt B0 577 (.ireturn) 1 578 := ⟨at_577, rfl⟩
theorem d0_578 : DAt B0 578 (.iload 15) 2 580 := ⟨at_578, rfl⟩
theorem d0_580 : DAt B0 580 (.bipush 6) 2 582 := ⟨at_580, rfl⟩
theorem d0_582 : DAt B0 582 (.if_icmp .ne 30) 3 585 := ⟨at_582, rfl⟩
theorem d0_585 : DAt B0 585 (.iload 17) 2 587 := ⟨at_585, rfl⟩
theorem d0_587 : DAt B0 587 (.ifCond .lt 25) 3 590 := ⟨at_587, rfl⟩
theorem d0_590 : DAt B0 590 (.iload 17) 2 592 := ⟨at_590, rfl⟩
theorem d0_592 : DAt B0 592 (.sipush 255) 3 595 := ⟨at_592, rfl⟩
theorem d0_595 : DAt B0 595 (.if_icmp .gt 17) 3 598 := ⟨at_595, rfl⟩
theorem d0_598 : DAt B0 598 (.lload 7) 2 600 := ⟨at_598, rfl⟩
theorem d0_600 : DAt B0 600 (.lload 9) 2 602 := ⟨at_600, rfl⟩
theorem d0_602 : DAt B0 602 (.lcmp) 1 603 := ⟨at_602, rfl⟩
theorem d0_603 : DAt B0 603 (.ifCond .ne 11) 3 606 := ⟨at_603, rfl⟩
theorem d0_606 : DAt B0 606 (.iload_n 2) 1 607 := ⟨at_606, rfl⟩
theorem d0_607 : DAt B0 607 (.iload 4) 2 609 := ⟨at_607, rfl⟩
theorem d0_609 : DAt B0 609 (.if_icmp .ne 5) 3 612 := ⟨at_609, rfl⟩
theorem d0_612 : DAt B0 612 (.iconst 0) 1 613 := ⟨at_612, rfl⟩
theorem d0_613 : DAt B0 613 (.ireturn) 1 614 := ⟨at_613, rfl⟩
theorem d0_614 : DAt B0 614 (.iload 15) 2 616 := ⟨at_614, rfl⟩
theorem d0_616 : DAt B0 616 (.istore 5) 2 618 := ⟨at_616, rfl⟩
theorem d0_618 : DAt B0 618 (.iload 17) 2 620 := ⟨at_618, rfl⟩
theorem d0_620 : DAt B0 620 (.istore 6) 2 622 := ⟨at_620, rfl⟩
theorem d0_622 : DAt B0 622 (.aload_n 1) 1 623 := ⟨at_622, rfl⟩
theorem d0_623 : DAt B0 623 (.invokevirtual 55) 3 626 := ⟨at_623, rfl⟩
theorem d0_626 : DAt B0 626 (.iload_n 2) 1 627 := ⟨at_626, rfl⟩
theorem d0_627 : DAt B0 627 (.if_icmp .ne 37) 3 630 := ⟨at_627, rfl⟩
theorem d0_630 : DAt B0 630 (.aload_n 1) 1 631 := ⟨at_630, rfl⟩
theorem d0_631 : DAt B0 631 (.invokevirtual 58) 3 634 := ⟨at_631, rfl⟩
theorem d0_634 : DAt B0 634 (.iload_n 3) 1 635 := ⟨at_634, rfl⟩
theorem d0_635 : DAt B0 635 (.if_icmp .ne 29) 3 638 := ⟨at_635, rfl⟩
theorem d0_638 : DAt B0 638 (.aload_n 1) 1 639 := ⟨at_638, rfl⟩
theorem d0_639 : DAt B0 639 (.invokevirtual 61) 3 642 := ⟨at_639, rfl⟩
theorem d0_642 : DAt B0 642 (.iload_n 3) 1 643 := ⟨at_642, rfl⟩
theorem d0_643 : DAt B0 643 (.iconst 1) 1 644 := ⟨at_643, rfl⟩
theorem d0_644 : DAt B0 644 (.if_icmp .ne 7) 3 647 := ⟨at_644, rfl⟩
theorem d0_647 : DAt B0 647 (.iconst 1) 1 648 := ⟨at_647, rfl⟩
theorem d0_648 : DAt B0 648 (.goto 4) 3 651 := ⟨at_648, rfl⟩
theorem d0_651 : DAt B0 651 (.iconst 0) 1 652 := ⟨at_651, rfl⟩
theorem d0_652 : DAt B0 652 (.if_icmp .ne 12) 3 655 := ⟨at_652, rfl⟩
theorem d0_655 : DAt B0 655 (.aload_n 1) 1 656 := ⟨at_655, rfl⟩
theorem d0_656 : DAt B0 656 (.invokevirtual 65) 3 659 := ⟨at_656, rfl⟩
theorem d0_659 : DAt B0 659 (.iload 4) 2 661 := ⟨at_659, rfl⟩
theorem d0_661 : DAt B0 661 (.if_icmp .eq 5) 3 664 := ⟨at_661, rfl⟩
theorem d0_664 : DAt B0 664 (.iconst 0) 1 665 := ⟨at_664, rfl⟩
theorem d0_665 : DAt B0 665 (.ireturn) 1 666 := ⟨at_665, rfl⟩
theorem d0_666 : DAt B0 666 (.aload_n 1) 1 667 := ⟨at_666, rfl⟩
theorem d0_667 : DAt B0 667 (.invokevirtual 68) 3 670 := ⟨at_667, rfl⟩
theorem d0_670 : DAt B0 670 (.iload 5) 2 672 := ⟨at_670, rfl⟩
theorem d0_672 : DAt B0 672 (.if_icmp .ne 12) 3 675 := ⟨at_672, rfl⟩
theorem d0_675 : DAt B0 675 (.aload_n 1) 1 676 := ⟨at_675, rfl⟩
theorem d0_676 : DAt B0 676 (.invokevirtual 45) 3 679 := ⟨at_676, rfl⟩
theorem d0_679 : DAt B0 679 (.iload 6) 2 681 := ⟨at_679, rfl⟩
theorem d0_681 : DAt B0 681 (.if_icmp .eq 5) 3 684 := ⟨at_681, rfl⟩
theorem d0_684 : DAt B0 684 (.iconst 0) 1 685 := ⟨at_684, rfl⟩
theorem d0_685 : DAt B0 685 (.ireturn) 1 686 := ⟨at_685, rfl⟩
theorem d0_686 : DAt B0 686 (.aload_n 1) 1 687 := ⟨at_686, rfl⟩
theorem d0_687 : DAt B0 687 (.invokevirtual 71) 3 690 := ⟨at_687, rfl⟩
theorem d0_690 : DAt B0 690 (.lload 7) 2 692 := ⟨at_690, rfl⟩
theorem d0_692 : DAt B0 692 (.iload_n 2) 1 693 := ⟨at_692, rfl⟩
theorem d0_693 : DAt B0 693 (.invokestatic 74) 3 696 := ⟨at_693, rfl⟩
theorem d0_696 : DAt B0 696 (.if_icmp .eq 5) 3 699 := ⟨at_696, rfl⟩
theorem d0_699 : DAt B0 699 (.iconst 0) 1 700 := ⟨at_699, rfl⟩
theorem d0_700 : DAt B0 700 (.ireturn) 1 701 := ⟨at_700, rfl⟩
theorem d0_701 : DAt B0 701 (.aload_n 1) 1 702 := ⟨at_701, rfl⟩
theorem d0_702 : DAt B0 702 (.iload_n 2) 1 703 := ⟨at_702, rfl⟩
theorem d0_703 : DAt B0 703 (.invokevirtual 78) 3 706 := ⟨at_703, rfl⟩
theorem d0_706 : DAt B0 706 (.iconst (-1)) 1 707 := ⟨at_706, rfl⟩
theorem d0_707 : DAt B0 707 (.if_icmp .eq 5) 3 710 := ⟨at_707, rfl⟩
theorem d0_710 : DAt B0 710 (.iconst 0) 1 711 := ⟨at_710, rfl⟩
theorem d0_711 : DAt B0 711 (.ireturn) 1 712 := ⟨at_711, rfl⟩
theorem d0_712 : DAt B0 712 (.iload_n 2) 1 713 := ⟨at_712, rfl⟩
theorem d0_713 : DAt B0 713 (.ifCond .le 28) 3 716 := ⟨at_713, rfl⟩
theorem d0_716 : DAt B0 716 (.aload_n 1) 1 717 := ⟨at_716, rfl⟩
theorem d0_717 : DAt B0 717 (.iload_n 2) 1 718 := ⟨at_717, rfl⟩
theorem d0_718 : DAt B0 718 (.iconst 1) 1 719 := ⟨at_718, rfl⟩
theorem d0_719 : DAt B0 719 (.isub) 1 720 := ⟨at_719, rfl⟩
theorem d0_720 : DAt B0 720 (.invokevirtual 78) 3 723 := ⟨at_720, rfl⟩
theorem d0_723 : DAt B0 723 (.lload 7) 2 725 := ⟨at_723, rfl⟩
theorem d0_725 : DAt B0 725 (.iconst 4) 1 726 := ⟨at_725, rfl⟩
theorem d0_726 : DAt B0 726 (.iload_n 2) 1 727 := ⟨at_726, rfl⟩
theorem d0_727 : DAt B0 727 (.iconst 1) 1 728 := ⟨at_727, rfl⟩
theorem d0_728 : DAt B0 728 (.isub) 1 729 := ⟨at_728, rfl⟩
theorem d0_729 : DAt B0 729 (.imul) 1 730 := ⟨at_729, rfl⟩
theorem d0_730 : DAt B0 730 (.lushr) 1 731 := ⟨at_730, rfl⟩
theorem d0_731 : DAt B0 731 (.ldc2_w 7) 3 734 := ⟨at_731, rfl⟩
theorem d0_734 : DAt B0 734 (.land) 1 735 := ⟨at_734, rfl⟩
theorem d0_735 : DAt B0 735 (.l2i) 1 736 := ⟨at_735, rfl⟩
theorem d0_736 : DAt B0 736 (.if_icmp .eq 5) 3 739 := ⟨at_736, rfl⟩
theorem d0_739 : DAt B0 739 (.iconst 0) 1 740 := ⟨at_739, rfl⟩
theorem d0_740 : DAt B0 740 (.ireturn) 1 741 := ⟨at_740, rfl⟩
theorem d0_741 : DAt B0 741 (.iinc 12 2) 3 744 := ⟨at_741, rfl⟩
theorem d0_744 : DAt B0 744 (.goto (-710)) 3 747 := ⟨at_744, rfl⟩
theorem d0_747 : DAt B0 747 (.iconst 1) 1 748 := ⟨at_747, rfl⟩
theorem d0_748 : DAt B0 748 (.ireturn) 1 749 := ⟨at_748, rfl⟩
theorem ar1 : arity B1 1 := ⟨[.int], none, by decide +kernel, rfl⟩
theorem ar2 : arity B2 0 := ⟨[], none, by decide +kernel, rfl⟩
theorem ar3 : arity B3 1 := ⟨[.int], some .int, by decide +kernel, rfl⟩
theorem ar4 : arity B4 1 := ⟨[.int], some .int, by decide +kernel, rfl⟩
theorem ar5 : arity B5 1 := ⟨[.int], some .int, by decide +kernel, rfl⟩
theorem ar6 : arity B6 0 := ⟨[], some .int, by decide +kernel, rfl⟩
theorem ar7 : arity B7 0 := ⟨[], some .int, by decide +kernel, rfl⟩
theorem ar8 : arity B8 0 := ⟨[], some .boolean, by decide +kernel, rfl⟩
theorem ar9 : arity B9 0 := ⟨[], some .boolean, by decide +kernel, rfl⟩
theorem ar10 : arity B10 0 := ⟨[], some .int, by decide +kernel, rfl⟩
theorem ar11 : arity B11 0 := ⟨[], some .int, by decide +kernel, rfl⟩
theorem ar12 : arity B12 0 := ⟨[], some .int, by decide +kernel, rfl⟩
theorem ar13 : arity B13 0 := ⟨[], some .int, by decide +kernel, rfl⟩
theorem ar14 : arity B14 2 := ⟨[.long, .int], some .int, by decide +kernel, rfl⟩
theorem ar15 : arity B15 1 := ⟨[.int], some .int, by decide +kernel, rfl⟩
theorem ar16 : arity B16 0 := ⟨[], none, by decide +kernel, rfl⟩
theorem ar17 : arity B17 0 := ⟨[], some .int, by decide +kernel, rfl⟩
theorem ar18 : arity B18 0 := ⟨[], some .int, by decide +kernel, rfl⟩
theorem ar19 : arity B19 0 := ⟨[], some .int, by decide +kernel, rfl⟩
theorem ar20 : arity B20 0 := ⟨[], none, by decide +kernel, rfl⟩
theorem ar21 : arity B21 0 := ⟨[], none, by decide +kernel, rfl⟩
theorem ar22 : arity B22 2 := ⟨[.int, .int], some .int, by decide +kernel, rfl⟩
theorem ar23 : arity B23 2 := ⟨[.int, .int], none, by decide +kernel, rfl⟩
theorem ar24 : arity B24 2 := ⟨[.int, .int], some .long, by decide +kernel, rfl⟩
theorem ar25 : arity B25 2 := ⟨[.int, .int], some .long, by decide +kernel, rfl⟩
theorem ar26 : arity B26 1 := ⟨[.int], none, by decide +kernel, rfl⟩
theorem ar27 : arity B27 0 := ⟨[], none, by decide +kernel, rfl⟩
theorem ar28 : arity B28 0 := ⟨[], some .int, by decide +kernel, rfl⟩
theorem ar29 : arity B29 0 := ⟨[], some .int, by decide +kernel, rfl⟩
theorem ar30 : arity B30 0 := ⟨[], none, by decide +kernel, rfl⟩
theorem ar31 : arity B31 0 := ⟨[], some .int, by decide +kernel, rfl⟩
theorem ar32 : arity B32 1 := ⟨[.long], some .int, by decide +kernel, rfl⟩
theorem ar33 : arity B33 2 := ⟨[.int, .int], none, by decide +kernel, rfl⟩
theorem ar34 : arity B34 3 := ⟨[(.object "SaturProver"), .int, .int], some .boolean, by decide +kernel, rfl⟩
theorem ar35 : arity B35 1 := ⟨[.int], some .int, by decide +kernel, rfl⟩
theorem ar36 : arity B36 1 := ⟨[.int], some .int, by decide +kernel, rfl⟩
theorem ar37 : arity B37 1 := ⟨[.int], none, by decide +kernel, rfl⟩
theorem ar38 : arity B38 0 := ⟨[], none, by decide +kernel, rfl⟩
theorem ar39 : arity B39 0 := ⟨[], none, by decide +kernel, rfl⟩
theorem ar40 : arity B40 2 := ⟨[.int, .int], none, by decide +kernel, rfl⟩
theorem ar41 : arity B41 3 := ⟨[.int, .long, .long], some .long, by decide +kernel, rfl⟩
theorem cw1 : code_w B1 := ⟨mem1 5 rfl, mem1 2 rfl, by decide⟩
theorem cw2 : code_w B2 := ⟨mem1 38 rfl, mem1 2 rfl, by decide⟩
theorem cw3 : code_w B3 := ⟨mem1 48 rfl, mem1 2 rfl, by decide⟩
theorem cw4 : code_w B4 := ⟨mem1 52 rfl, mem1 2 rfl, by decide⟩
theorem cw5 : code_w B5 := ⟨mem1 56 rfl, mem1 55 rfl, by decide⟩
theorem cw6 : code_w B6 := ⟨mem1 61 rfl, mem1 2 rfl, by decide⟩
theorem cw7 : code_w B7 := ⟨mem1 66 rfl, mem1 2 rfl, by decide⟩
theorem cw8 : code_w B8 := ⟨mem1 71 rfl, mem1 2 rfl, by decide⟩
theorem cw9 : code_w B9 := ⟨mem1 75 rfl, mem1 2 rfl, by decide⟩
theorem cw10 : code_w B10 := ⟨mem1 80 rfl, mem1 2 rfl, by decide⟩
theorem cw11 : code_w B11 := ⟨mem1 85 rfl, mem1 2 rfl, by decide⟩
theorem cw12 : code_w B12 := ⟨mem1 90 rfl, mem1 2 rfl, by decide⟩
theorem cw13 : code_w B13 := ⟨mem1 95 rfl, mem1 2 rfl, by decide⟩
theorem cw14 : code_w B14 := ⟨mem1 98 rfl, mem1 55 rfl, by decide⟩
theorem cw15 : code_w B15 := ⟨mem1 104 rfl, mem1 2 rfl, by decide⟩
theorem cw16 : code_w B16 := ⟨mem1 109 rfl, mem1 2 rfl, by decide⟩
theorem cw17 : code_w B17 := ⟨mem1 114 rfl, mem1 2 rfl, by decide⟩
theorem cw18 : code_w B18 := ⟨mem1 119 rfl, mem1 2 rfl, by decide⟩
theorem cw19 : code_w B19 := ⟨mem1 124 rfl, mem1 2 rfl, by decide⟩
theorem cw20 : code_w B20 := ⟨mem1 128 rfl, mem1 2 rfl, by decide⟩
theorem cw21 : code_w B21 := ⟨mem1 132 rfl, mem1 2 rfl, by decide⟩
theorem cw22 : code_w B22 := ⟨mem1 136 rfl, mem1 2 rfl, by decide⟩
theorem cw23 : code_w B23 := ⟨mem1 140 rfl, mem1 2 rfl, by decide⟩
theorem cw24 : code_w B24 := ⟨mem1 144 rfl, mem1 2 rfl, by decide⟩
theorem cw25 : code_w B25 := ⟨mem1 148 rfl, mem1 2 rfl, by decide⟩
theorem cw26 : code_w B26 := ⟨mem1 153 rfl, mem1 2 rfl, by decide⟩
theorem cw27 : code_w B27 := ⟨mem1 157 rfl, mem1 2 rfl, by decide⟩
theorem cw28 : code_w B28 := ⟨mem1 163 rfl, mem1 2 rfl, by decide⟩
theorem cw29 : code_w B29 := ⟨mem1 168 rfl, mem1 2 rfl, by decide⟩
theorem cw30 : code_w B30 := ⟨mem1 173 rfl, mem1 2 rfl, by decide⟩
theorem cw31 : code_w B31 := ⟨mem1 178 rfl, mem1 2 rfl, by decide⟩
theorem cw32 : code_w B32 := ⟨mem1 182 rfl, mem1 2 rfl, by decide⟩
theorem cw33 : code_w B33 := ⟨mem1 186 rfl, mem1 2 rfl, by decide⟩
theorem cw34 : code_w B34 := ⟨mem1 189 rfl, mem1 55 rfl, by decide⟩
theorem cw35 : code_w B35 := ⟨mem1 194 rfl, mem1 2 rfl, by decide⟩
theorem cw36 : code_w B36 := ⟨mem1 198 rfl, mem1 2 rfl, by decide⟩
theorem cw37 : code_w B37 := ⟨mem1 202 rfl, mem1 2 rfl, by decide⟩
theorem cw38 : code_w B38 := ⟨mem1 206 rfl, mem1 2 rfl, by decide⟩
theorem cw39 : code_w B39 := ⟨mem1 210 rfl, mem1 2 rfl, by decide⟩
theorem cw40 : code_w B40 := ⟨mem1 216 rfl, mem1 2 rfl, by decide⟩
theorem cw41 : code_w B41 := ⟨mem1 220 rfl, mem1 2 rfl, by decide⟩
theorem rk0_3_0 : room_ok B0 B3 0 := by decide
theorem rk0_5_0 : room_ok B0 B5 0 := by decide
theorem rk0_5_2 : room_ok B0 B5 2 := by decide
theorem rk0_6_0 : room_ok B0 B6 0 := by decide
theorem rk0_7_0 : room_ok B0 B7 0 := by decide
theorem rk0_8_0 : room_ok B0 B8 0 := by decide
theorem rk0_10_0 : room_ok B0 B10 0 := by decide
theorem rk0_11_0 : room_ok B0 B11 0 := by decide
theorem rk0_12_0 : room_ok B0 B12 0 := by decide
theorem rk0_13_0 : room_ok B0 B13 0 := by decide
theorem rk0_14_1 : room_ok B0 B14 1 := by decide
theorem rk0_15_0 : room_ok B0 B15 0 := by decide
theorem rk0_16_0 : room_ok B0 B16 0 := by decide
theorem rk0_17_0 : room_ok B0 B17 0 := by decide
theorem rk0_18_0 : room_ok B0 B18 0 := by decide
theorem rk0_19_0 : room_ok B0 B19 0 := by decide
theorem rk0_28_0 : room_ok B0 B28 0 := by decide
theorem rk0_29_0 : room_ok B0 B29 0 := by decide
theorem rk0_34_0 : room_ok B0 B34 0 := by decide
theorem rk0_35_0 : room_ok B0 B35 0 := by decide
theorem rk1_2_0 : room_ok B1 B2 0 := by decide
theorem rk3_2_0 : room_ok B3 B2 0 := by decide
theorem rk3_4_0 : room_ok B3 B4 0 := by decide
theorem rk8_9_0 : room_ok B8 B9 0 := by decide
theorem rk16_2_0 : room_ok B16 B2 0 := by decide
theorem rk17_2_0 : room_ok B17 B2 0 := by decide
theorem rk17_4_3 : room_ok B17 B4 3 := by decide
theorem rk18_9_0 : room_ok B18 B9 0 := by decide
theorem rk18_21_0 : room_ok B18 B21 0 := by decide
theorem rk18_31_0 : room_ok B18 B31 0 := by decide
theorem rk18_33_0 : room_ok B18 B33 0 := by decide
theorem rk18_39_0 : room_ok B18 B39 0 := by decide
theorem rk19_2_0 : room_ok B19 B2 0 := by decide
theorem rk19_9_0 : room_ok B19 B9 0 := by decide
theorem rk19_20_0 : room_ok B19 B20 0 := by decide
theorem rk19_21_0 : room_ok B19 B21 0 := by decide
theorem rk19_27_0 : room_ok B19 B27 0 := by decide
theorem rk21_22_0 : room_ok B21 B22 0 := by decide
theorem rk21_26_0 : room_ok B21 B26 0 := by decide
theorem rk22_4_0 : room_ok B22 B4 0 := by decide
theorem rk22_23_0 : room_ok B22 B23 0 := by decide
theorem rk22_37_0 : room_ok B22 B37 0 := by decide
theorem rk22_40_0 : room_ok B22 B40 0 := by decide
theorem rk23_24_2 : room_ok B23 B24 2 := by decide
theorem rk24_25_0 : room_ok B24 B25 0 := by decide
theorem rk28_9_0 : room_ok B28 B9 0 := by decide
theorem rk28_21_0 : room_ok B28 B21 0 := by decide
theorem rk28_31_0 : room_ok B28 B31 0 := by decide
theorem rk28_33_0 : room_ok B28 B33 0 := by decide
theorem rk28_38_0 : room_ok B28 B38 0 := by decide
theorem rk29_9_0 : room_ok B29 B9 0 := by decide
theorem rk29_21_0 : room_ok B29 B21 0 := by decide
theorem rk29_30_0 : room_ok B29 B30 0 := by decide
theorem rk29_31_0 : room_ok B29 B31 0 := by decide
theorem rk29_33_0 : room_ok B29 B33 0 := by decide
theorem rk31_32_1 : room_ok B31 B32 1 := by decide
theorem rk34_35_0 : room_ok B34 B35 0 := by decide
theorem rk35_9_0 : room_ok B35 B9 0 := by decide
theorem rk35_21_0 : room_ok B35 B21 0 := by decide
theorem rk35_36_0 : room_ok B35 B36 0 := by decide
theorem rk40_41_2 : room_ok B40 B41 2 := by decide
def X_resetResult (ob : Rec) : Option (Rec) :=
  some (sI (sI ob 5 (0 : Int32)) 6 (-1 : Int32))
set_option maxRecDepth 65536 in
set_option maxHeartbeats 4000000 in
theorem X_resetResult_p {C : Ctx} {top : Nat} {a : Nat} {H : List (Nat × Nat × Rec)} {res : Rec} (ob : Rec) (hf : X_resetResult ob = some res) : Runs C B2 0 0 0 [vr a] [] (top, (a, 6, ob) :: H) (Ans none (top, (a, 6, res) :: H)) := by
  delta X_resetResult at hf
  obtain rfl := Option.some.inj hf
  exact Runs.aloadN d2_0 rfl <| Runs.iconst d2_1 ci_0 <| Runs.putI d2_2 w39 fS_5 (Or.inl w40) <| Runs.aloadN d2_5 rfl <| Runs.iconst d2_6 ci_m1 <| Runs.putI d2_7 w41 fS_6 (Or.inl w42) <| Runs.retV d2_10 rfl ⟨by decide, by decide⟩ ⟨rfl, rfl⟩
theorem X_resetResult_pay {C : Ctx} {top : Nat} {a : Nat} {H : List (Nat × Nat × Rec)} {res : Rec} {ob : Rec} (hf : X_resetResult ob = some res) : Pays C B2 [.ref a] (top, (a, 6, ob) :: H) (Ans none (top, (a, 6, res) :: H)) :=
  Pays.of pnK (Nat.le_of_ble_eq_true rfl) (P := [vr a]) 0 rfl (X_resetResult_p ob hf)
def X_init_b70 (ob : Rec) (i2 : Int32) : Option (Rec) :=
  (X_resetResult (sI (sI (sI (sI (sI (sI ob 0 i2) 1 (0 : Int32)) 2 (0 : Int32)) 3 (0 : Int32)) 4 (0 : Int32)) 7 (0 : Int32))).bind fun q2 =>
  some q2
set_option maxRecDepth 65536 in
set_option maxHeartbeats 4000000 in
theorem X_init_b70_p {C : Ctx} {a : Nat} {H : List (Nat × Nat × Rec)} {res : Rec} (ob : Rec) (i2 : Int32) (hf : X_init_b70 ob i2 = some res) : Runs C B1 6 204 70 [vr a, vn, vi i2] [] (a + 1 + 6, (a, 6, ob) :: H) (Ans none (a + 1 + 6, (a, 6, res) :: H)) := by
  delta X_init_b70 at hf
  refine Runs.aloadN d1_70 rfl <| Runs.iloadN d1_71 rfl <| Runs.putI d1_72 w23 fS_0 (Or.inl w24) <| Runs.aloadN d1_75 rfl <| Runs.iconst d1_76 ci_0 <| Runs.putI d1_77 w25 fS_1 (Or.inl w26) <| Runs.aloadN d1_80 rfl <| Runs.iconst d1_81 ci_0 <| Runs.putI d1_82 w27 fS_2 (Or.inl w28) <| Runs.aloadN d1_85 rfl <| Runs.iconst d1_86 ci_0 <| Runs.putI d1_87 w29 fS_3 (Or.inl w30) <| ?_
  refine Runs.aloadN d1_90 rfl <| Runs.iconst d1_91 ci_0 <| Runs.putZ (y := (0 : Int32)) d1_92 w31 fS_4 (Or.inl w32) rfl <| Runs.aloadN d1_95 rfl <| Runs.iconst d1_96 ci_0 <| Runs.putZ (y := (0 : Int32)) d1_97 w33 fS_7 (Or.inl w34) rfl <| Runs.aloadN d1_100 rfl <| ?_
  refine bind_el hf fun q2 hg3 hf => ?_
  obtain rfl := Option.some.inj hf
  exact Runs.callP (N := B2) (W := 0) (as := []) (S' := []) d1_101 w35 w36 w37 rfl cw2 ar2 rk1_2_0 (by decide) rfl rfl (X_resetResult_pay hg3) <| ans0 <| Runs.retV d1_104 rfl ⟨by decide, by decide⟩ ⟨rfl, rfl⟩
def X_init_b61 (ob : Rec) (i2 : Int32) : Option (Rec) :=
  if (32 : Int32) < i2 then
    X_init_b70 ob (32 : Int32)
  else
    X_init_b70 ob i2
set_option maxRecDepth 65536 in
set_option maxHeartbeats 4000000 in
theorem X_init_b61_p {C : Ctx} {a : Nat} {H : List (Nat × Nat × Rec)} {res : Rec} (ob : Rec) (i2 : Int32) (hf : X_init_b61 ob i2 = some res) : Runs C B1 6 204 61 [vr a, vn, vi i2] [] (a + 1 + 6, (a, 6, ob) :: H) (Ans none (a + 1 + 6, (a, 6, res) :: H)) := by
  delta X_init_b61 at hf
  refine Runs.iloadN d1_61 rfl <| Runs.bipush d1_62 cb_32 <| ?_
  refine ite_el hf (fun hc1 hf => ?_) (fun hc1 hf => ?_)
  · refine Runs.icN d1_64 (tlt hc1).2.2.2 <| ?_
    exact Runs.bipush d1_67 cb_32 <| Runs.istoreN (P' := [vr a, vn, vi (32 : Int32)]) d1_69 (by decide) rfl <| X_init_b70_p ob (32 : Int32) hf
  · exact Runs.icY (pc' := 70) d1_64 (flt hc1).2.2.2 (by decide) <| X_init_b70_p ob i2 hf
def X_init (i1 : Int32) : Option (Rec) :=
  if i1 < (8 : Int32) then
    X_init_b61 zrec (8 : Int32)
  else
    X_init_b61 zrec i1
set_option maxRecDepth 65536 in
set_option maxHeartbeats 4000000 in
theorem X_init_p {C : Ctx} {a : Nat} {H : List (Nat × Nat × Rec)} {res : Rec} (i1 : Int32) (hf : X_init i1 = some res) : Runs C B1 0 0 0 [vr a, vi i1, vn] [] (a + 1, (a, 0, zrec) :: H) (Ans none (a + 1 + 6, (a, 6, res) :: H)) := by
  delta X_init at hf
  refine Runs.aloadN d1_0 rfl <| Runs.initO (W := 0) d1_1 w6 w7 w8 rfl (by decide) <| Runs.aloadN d1_4 rfl <| Runs.bipush d1_5 cb_32 <| Runs.newArr (j' := 1) (top' := a + 1 + 1) (k' := 1) (n' := 32) d1_7 d1_9 fA_0 w10 rfl w9 (Or.inr ⟨rfl, rfl⟩) rfl (by decide) ⟨by decide, by decide⟩ ⟨fun _ => rfl, fun _ => rfl⟩ rfl rfl rfl (by decide) <| Runs.aloadN d1_12 rfl <| Runs.bipush d1_13 cb_32 <| Runs.newArr (j' := 2) (top' := a + 1 + 2) (k' := 2) (n' := 64) d1_15 d1_17 fA_1 w12 rfl w9 (Or.inr ⟨rfl, rfl⟩) rfl (by decide) ⟨by decide, by decide⟩ ⟨fun _ => rfl, fun _ => rfl⟩ rfl rfl rfl (by decide) <| Runs.aloadN d1_20 rfl <| Runs.sipush d1_21 cs_128 <| Runs.newArr (j' := 3) (top' := a + 1 + 3) (k' := 3) (n' := 192) d1_24 d1_26 fA_2 w15 rfl w14 (Or.inr ⟨rfl, rfl⟩) rfl (by decide) ⟨by decide, by decide⟩ ⟨fun _ => rfl, fun _ => rfl⟩ rfl rfl rfl (by decide) <| Runs.aloadN d1_29 rfl <| ?_
  refine Runs.iconst d1_30 ci_4 <| Runs.newArr (j' := 4) (top' := a + 1 + 4) (k' := 4) (n' := 196) d1_31 d1_33 fA_3 w17 rfl w14 (Or.inr ⟨rfl, rfl⟩) rfl (by decide) ⟨by decide, by decide⟩ ⟨fun _ => rfl, fun _ => rfl⟩ rfl rfl rfl (by decide) <| Runs.aloadN d1_36 rfl <| Runs.iconst d1_37 ci_4 <| Runs.newArr (j' := 5) (top' := a + 1 + 5) (k' := 5) (n' := 200) d1_38 d1_40 fA_4 w19 rfl w14 (Or.inr ⟨rfl, rfl⟩) rfl (by decide) ⟨by decide, by decide⟩ ⟨fun _ => rfl, fun _ => rfl⟩ rfl rfl rfl (by decide) <| Runs.aloadN d1_43 rfl <| Runs.iconst d1_44 ci_4 <| Runs.newArr (j' := 6) (top' := a + 1 + 6) (k' := 6) (n' := 204) d1_45 d1_47 fA_5 w21 rfl w14 (Or.inr ⟨rfl, rfl⟩) rfl (by decide) ⟨by decide, by decide⟩ ⟨fun _ => rfl, fun _ => rfl⟩ rfl rfl rfl (by decide) <| Runs.iloadN d1_50 rfl <| Runs.istoreN (P' := [vr a, vi i1, vi i1]) d1_51 (by decide) rfl <| Runs.iloadN d1_52 rfl <| Runs.bipush d1_53 cb_8 <| ?_
  refine ite_el hf (fun hc4 hf => ?_) (fun hc4 hf => ?_)
  · refine Runs.icN d1_55 (tlt hc4).2.1 <| ?_
    exact Runs.bipush d1_58 cb_8 <| Runs.istoreN (P' := [vr a, vi i1, vi (8 : Int32)]) d1_60 (by decide) rfl <| Runs.forget [true, false, true] rfl <| X_init_b61_p zrec (8 : Int32) hf
  · exact Runs.icY (pc' := 61) d1_55 (flt hc4).2.1 (by decide) <| Runs.forget [true, false, true] rfl <| X_init_b61_p zrec i1 hf
theorem X_init_pay {C : Ctx} {a : Nat} {H : List (Nat × Nat × Rec)} {res : Rec} {i1 : Int32} (hf : X_init i1 = some res) : Pays C B1 [.ref a, .int i1] (a + 1, (a, 0, zrec) :: H) (Ans none (a + 1 + 6, (a, 6, res) :: H)) :=
  Pays.of pnK (Nat.le_of_ble_eq_true rfl) (P := [vr a, vi i1, vn]) 1 rfl (X_init_p i1 hf)
def X_arity (ob : Rec) (i1 : Int32) : Option (Int32) :=
  if (9 : Int32) < i1 then
    if i1 = (10 : Int32) then
      some (1 : Int32)
    else
      some (2 : Int32)
  else
    some (0 : Int32)
set_option maxRecDepth 65536 in
set_option maxHeartbeats 4000000 in
theorem X_arity_p {C : Ctx} {top : Nat} {a : Nat} {H : List (Nat × Nat × Rec)} {ob : Rec} {res : Int32} (i1 : Int32) (hf : X_arity ob i1 = some res) : Runs C B4 0 0 0 [vr a, vi i1] [] (top, (a, 6, ob) :: H) (Ans (some (.int res)) (top, (a, 6, ob) :: H)) := by
  delta X_arity at hf
  refine Runs.iloadN d4_0 rfl <| Runs.bipush d4_1 cb_9 <| ?_
  refine ite_el hf (fun hc1 hf => ?_) (fun hc1 hf => ?_)
  · refine Runs.icY (pc' := 8) d4_3 (tlt hc1).2.2.1 (by decide) <| ?_
    refine Runs.iloadN d4_8 rfl <| Runs.bipush d4_9 cb_10 <| ?_
    refine ite_el hf (fun hc2 hf => ?_) (fun hc2 hf => ?_)
    · refine Runs.icN d4_11 (teq hc2).2 <| ?_
      obtain rfl := Option.some.inj hf
      exact Runs.iconst d4_14 ci_1 <| Runs.retI d4_15 rfl ⟨by decide, by decide⟩ ⟨rfl, rfl⟩
    · refine Runs.icY (pc' := 16) d4_11 (feq hc2).2 (by decide) <| ?_
      obtain rfl := Option.some.inj hf
      exact Runs.iconst d4_16 ci_2 <| Runs.retI d4_17 rfl ⟨by decide, by decide⟩ ⟨rfl, rfl⟩
  · refine Runs.icN d4_3 (flt hc1).2.2.1 <| ?_
    obtain rfl := Option.some.inj hf
    exact Runs.iconst d4_6 ci_0 <| Runs.retI d4_7 rfl ⟨by decide, by decide⟩ ⟨rfl, rfl⟩
theorem X_arity_pay {C : Ctx} {top : Nat} {a : Nat} {H : List (Nat × Nat × Rec)} {ob : Rec} {res : Int32} {i1 : Int32} (hf : X_arity ob i1 = some res) : Pays C B4 [.ref a, .int i1] (top, (a, 6, ob) :: H) (Ans (some (.int res)) (top, (a, 6, ob) :: H)) :=
  Pays.of pnK (Nat.le_of_ble_eq_true rfl) (P := [vr a, vi i1]) 0 rfl (X_arity_p i1 hf)
def X_pushToken (ob : Rec) (i1 : Int32) : Option (Int32 × Rec) :=
  if i1 < (0 : Int32) then
    some ((-1 : Int32), ob)
  else
    if (15 : Int32) < i1 then
      some ((-1 : Int32), ob)
    else
      if (gI ob 1) < (gI ob 0) then
        (X_arity ob i1).bind fun r4 =>
        if (gI ob 2) < r4 then
          some ((-3 : Int32), ob)
        else
          chk (32 : Int32) (gI ob 1) <|
          (X_resetResult (sI (sI (sI (sA ob 0 (gI ob 1) i1) 1 ((gI ob 1) + (1 : Int32))) 2 (((gI ob 2) + (1 : Int32)) - r4)) 7 (0 : Int32))).bind fun q8 =>
          some ((0 : Int32), q8)
      else
        some ((-2 : Int32), ob)
set_option maxRecDepth 65536 in
set_option maxHeartbeats 4000000 in
theorem X_pushToken_p {C : Ctx} {top : Nat} {a : Nat} {H : List (Nat × Nat × Rec)} {res : Int32 × Rec} (ob : Rec) (i1 : Int32) (hf : X_pushToken ob i1 = some res) : Runs C B3 0 0 0 [vr a, vi i1, vn] [] (top, (a, 6, ob) :: H) (Ans (some (.int res.1)) (top, (a, 6, res.2) :: H)) := by
  delta X_pushToken at hf
  refine Runs.iloadN d3_0 rfl <| ?_
  refine ite_el hf (fun hc1 hf => ?_) (fun hc1 hf => ?_)
  · refine Runs.ifY (pc' := 10) d3_1 (tlt hc1).1 (by decide) <| ?_
    obtain rfl := Option.some.inj hf
    exact Runs.iconst d3_10 ci_m1 <| Runs.retI d3_11 rfl ⟨by decide, by decide⟩ ⟨rfl, rfl⟩
  · refine Runs.ifN d3_1 (flt hc1).1 <| ?_
    refine Runs.iloadN d3_4 rfl <| Runs.bipush d3_5 cb_15 <| ?_
    refine ite_el hf (fun hc2 hf => ?_) (fun hc2 hf => ?_)
    · refine Runs.icN d3_7 (tlt hc2).2.2.2 <| ?_
      obtain rfl := Option.some.inj hf
      exact Runs.iconst d3_10 ci_m1 <| Runs.retI d3_11 rfl ⟨by decide, by decide⟩ ⟨rfl, rfl⟩
    · refine Runs.icY (pc' := 12) d3_7 (flt hc2).2.2.2 (by decide) <| ?_
      refine Runs.aloadN d3_12 rfl <| Runs.getI d3_13 w25 fS_1 <| Runs.aloadN d3_16 rfl <| Runs.getI d3_17 w23 fS_0 <| ?_
      refine ite_el hf (fun hc3 hf => ?_) (fun hc3 hf => ?_)
      · refine Runs.icY (pc' := 26) d3_20 (tlt hc3).1 (by decide) <| ?_
        refine Runs.aloadN d3_26 rfl <| Runs.iloadN d3_27 rfl <| ?_
        refine bind_el hf fun r4 hg5 hf => ?_
        refine Runs.callP (N := B4) (W := 0) (as := [.int i1]) (S' := []) d3_28 w49 w50 w51 rfl cw4 ar4 rk3_4_0 (by decide) rfl rfl (X_arity_pay hg5) <| ans1 <| Runs.istoreN (P' := [vr a, vi i1, vi r4]) d3_31 (by decide) rfl <| Runs.iloadN d3_32 rfl <| Runs.aloadN d3_33 rfl <| Runs.getI d3_34 w27 fS_2 <| ?_
        refine ite_el hf (fun hc6 hf => ?_) (fun hc6 hf => ?_)
        · refine Runs.icN d3_37 (tlt hc6).2.2.2 <| ?_
          obtain rfl := Option.some.inj hf
          exact Runs.bipush d3_40 cb_m3 <| Runs.retI d3_42 rfl ⟨by decide, by decide⟩ ⟨rfl, rfl⟩
        · refine Runs.icY (pc' := 43) d3_37 (flt hc6).2.2.2 (by decide) <| ?_
          refine Runs.aloadN d3_43 rfl <| Runs.getA d3_44 fA_0 w10 (by decide) <| Runs.aloadN d3_47 rfl <| Runs.getI d3_48 w25 fS_1 <| Runs.iloadN d3_51 rfl <| ?_
          refine chk_el hf fun hi7 hf => ?_
          refine Runs.iastoreA d3_52 fA_0 (by decide) hi7 <| Runs.aloadN d3_53 rfl <| Runs.aloadN d3_54 rfl <| Runs.getI d3_55 w25 fS_1 <| Runs.iconst d3_58 ci_1 <| Runs.iadd d3_59 <| Runs.putI d3_60 w25 fS_1 (Or.inl w26) <| Runs.aloadN d3_63 rfl <| Runs.aloadN d3_64 rfl <| Runs.getI d3_65 w27 fS_2 <| Runs.iconst d3_68 ci_1 <| Runs.iadd d3_69 <| ?_
          refine Runs.iloadN d3_70 rfl <| Runs.isub d3_71 <| Runs.putI d3_72 w27 fS_2 (Or.inl w28) <| Runs.aloadN d3_75 rfl <| Runs.iconst d3_76 ci_0 <| Runs.putZ (y := (0 : Int32)) d3_77 w33 fS_7 (Or.inl w34) rfl <| Runs.aloadN d3_80 rfl <| ?_
          refine bind_el hf fun q8 hg9 hf => ?_
          obtain rfl := Option.some.inj hf
          exact Runs.callP (N := B2) (W := 0) (as := []) (S' := []) d3_81 w35 w36 w37 rfl cw2 ar2 rk3_2_0 (by decide) rfl rfl (X_resetResult_pay hg9) <| ans0 <| Runs.iconst d3_84 ci_0 <| Runs.retI d3_85 rfl ⟨by decide, by decide⟩ ⟨rfl, rfl⟩
      · refine Runs.icN d3_20 (flt hc3).1 <| ?_
        obtain rfl := Option.some.inj hf
        exact Runs.bipush d3_23 cb_m2 <| Runs.retI d3_25 rfl ⟨by decide, by decide⟩ ⟨rfl, rfl⟩
theorem X_pushToken_pay {C : Ctx} {top : Nat} {a : Nat} {H : List (Nat × Nat × Rec)} {res : Int32 × Rec} {ob : Rec} {i1 : Int32} (hf : X_pushToken ob i1 = some res) : Pays C B3 [.ref a, .int i1] (top, (a, 6, ob) :: H) (Ans (some (.int res.1)) (top, (a, 6, res.2) :: H)) :=
  Pays.of pnK (Nat.le_of_ble_eq_true rfl) (P := [vr a, vi i1, vn]) 1 rfl (X_pushToken_p ob i1 hf)
def L_ar (i0 : Int32) : Option (Int32) :=
  if i0 < (10 : Int32) then
    some (0 : Int32)
  else
    if i0 = (10 : Int32) then
      some (1 : Int32)
    else
      some (2 : Int32)
set_option maxRecDepth 65536 in
set_option maxHeartbeats 4000000 in
theorem L_ar_p {C : Ctx} {G : AH} {res : Int32} (i0 : Int32) (hf : L_ar i0 = some res) : Runs C B5 0 0 0 [vi i0] [] G (Ans (some (.int res)) G) := by
  delta L_ar at hf
  refine Runs.iloadN d5_0 rfl <| Runs.bipush d5_1 cb_10 <| ?_
  refine ite_el hf (fun hc1 hf => ?_) (fun hc1 hf => ?_)
  · refine Runs.icN d5_3 (tlt hc1).2.1 <| ?_
    obtain rfl := Option.some.inj hf
    exact Runs.iconst d5_6 ci_0 <| Runs.goto (pc' := 21) d5_7 (by decide) <| Runs.retI d5_21 rfl ⟨by decide, by decide⟩ ⟨rfl, rfl⟩
  · refine Runs.icY (pc' := 10) d5_3 (flt hc1).2.1 (by decide) <| ?_
    refine Runs.iloadN d5_10 rfl <| Runs.bipush d5_11 cb_10 <| ?_
    refine ite_el hf (fun hc2 hf => ?_) (fun hc2 hf => ?_)
    · refine Runs.icN d5_13 (teq hc2).2 <| ?_
      obtain rfl := Option.some.inj hf
      exact Runs.iconst d5_16 ci_1 <| Runs.goto (pc' := 21) d5_17 (by decide) <| Runs.retI d5_21 rfl ⟨by decide, by decide⟩ ⟨rfl, rfl⟩
    · refine Runs.icY (pc' := 20) d5_13 (feq hc2).2 (by decide) <| ?_
      obtain rfl := Option.some.inj hf
      exact Runs.iconst d5_20 ci_2 <| Runs.retI d5_21 rfl ⟨by decide, by decide⟩ ⟨rfl, rfl⟩
theorem L_ar_pay {C : Ctx} {G : AH} {res : Int32} {i0 : Int32} (hf : L_ar i0 = some res) : Pays C B5 [.int i0] G (Ans (some (.int res)) G) :=
  Pays.of pnL (Nat.le_of_ble_eq_true rfl) (P := [vi i0]) 0 rfl (L_ar_p i0 hf)
def X_removeLast (ob : Rec) : Option (Int32 × Rec) :=
  if (0 : Int32) < (gI ob 1) then
    chk (32 : Int32) ((gI ob 1) - (1 : Int32)) <|
    (X_arity ob (gA ob 0 ((gI ob 1) - (1 : Int32)))).bind fun r3 =>
    (X_resetResult (sI (sI (sI ob 2 ((gI ob 2) - ((1 : Int32) - r3))) 1 ((gI ob 1) - (1 : Int32))) 7 (0 : Int32))).bind fun q5 =>
    some ((0 : Int32), q5)
  else
    some ((-4 : Int32), ob)
set_option maxRecDepth 65536 in
set_option maxHeartbeats 4000000 in
theorem X_removeLast_p {C : Ctx} {top : Nat} {a : Nat} {H : List (Nat × Nat × Rec)} {res : Int32 × Rec} (ob : Rec) (hf : X_removeLast ob = some res) : Runs C B17 0 0 0 [vr a, vn] [] (top, (a, 6, ob) :: H) (Ans (some (.int res.1)) (top, (a, 6, res.2) :: H)) := by
  delta X_removeLast at hf
  refine Runs.aloadN d17_0 rfl <| Runs.getI d17_1 w25 fS_1 <| ?_
  refine ite_el hf (fun hc1 hf => ?_) (fun hc1 hf => ?_)
  · refine Runs.ifY (pc' := 10) d17_4 (tlt hc1).2.2.1 (by decide) <| ?_
    refine Runs.aloadN d17_10 rfl <| Runs.getA d17_11 fA_0 w10 (by decide) <| Runs.aloadN d17_14 rfl <| Runs.getI d17_15 w25 fS_1 <| Runs.iconst d17_18 ci_1 <| Runs.isub d17_19 <| ?_
    refine chk_el hf fun hi2 hf => ?_
    refine Runs.ialoadA d17_20 fA_0 (by decide) hi2 <| Runs.istoreN (P' := [vr a, vi (gA ob 0 ((gI ob 1) - (1 : Int32)))]) d17_21 (by decide) rfl <| Runs.aloadN d17_22 rfl <| Runs.aloadN d17_23 rfl <| Runs.getI d17_24 w27 fS_2 <| Runs.iconst d17_27 ci_1 <| Runs.aloadN d17_28 rfl <| Runs.iloadN d17_29 rfl <| ?_
    refine bind_el hf fun r3 hg4 hf => ?_
    refine Runs.callP (N := B4) (W := 3) (as := [.int (gA ob 0 ((gI ob 1) - (1 : Int32)))]) (S' := [.int (1 : Int32), .int (gI ob 2), .ref a]) d17_30 w49 w50 w51 rfl cw4 ar4 rk17_4_3 (by decide) rfl rfl (X_arity_pay hg4) <| ans1 <| Runs.isub d17_33 <| Runs.isub d17_34 <| Runs.putI d17_35 w27 fS_2 (Or.inl w28) <| Runs.aloadN d17_38 rfl <| Runs.aloadN d17_39 rfl <| Runs.getI d17_40 w25 fS_1 <| Runs.iconst d17_43 ci_1 <| Runs.isub d17_44 <| Runs.putI d17_45 w25 fS_1 (Or.inl w26) <| Runs.aloadN d17_48 rfl <| Runs.iconst d17_49 ci_0 <| ?_
    refine Runs.putZ (y := (0 : Int32)) d17_50 w33 fS_7 (Or.inl w34) rfl <| Runs.aloadN d17_53 rfl <| ?_
    refine bind_el hf fun q5 hg6 hf => ?_
    obtain rfl := Option.some.inj hf
    exact Runs.callP (N := B2) (W := 0) (as := []) (S' := []) d17_54 w35 w36 w37 rfl cw2 ar2 rk17_2_0 (by decide) rfl rfl (X_resetResult_pay hg6) <| ans0 <| Runs.iconst d17_57 ci_0 <| Runs.retI d17_58 rfl ⟨by decide, by decide⟩ ⟨rfl, rfl⟩
  · refine Runs.ifN d17_4 (flt hc1).2.2.1 <| ?_
    obtain rfl := Option.some.inj hf
    exact Runs.bipush d17_7 cb_m4 <| Runs.retI d17_9 rfl ⟨by decide, by decide⟩ ⟨rfl, rfl⟩
theorem X_removeLast_pay {C : Ctx} {top : Nat} {a : Nat} {H : List (Nat × Nat × Rec)} {res : Int32 × Rec} {ob : Rec} (hf : X_removeLast ob = some res) : Pays C B17 [.ref a] (top, (a, 6, ob) :: H) (Ans (some (.int res.1)) (top, (a, 6, res.2) :: H)) :=
  Pays.of pnK (Nat.le_of_ble_eq_true rfl) (P := [vr a, vn]) 1 rfl (X_removeLast_p ob hf)
def X_clear (ob : Rec) : Option (Rec) :=
  (X_resetResult (sI (sI (sI ob 1 (0 : Int32)) 2 (0 : Int32)) 7 (0 : Int32))).bind fun q1 =>
  some q1
set_option maxRecDepth 65536 in
set_option maxHeartbeats 4000000 in
theorem X_clear_p {C : Ctx} {top : Nat} {a : Nat} {H : List (Nat × Nat × Rec)} {res : Rec} (ob : Rec) (hf : X_clear ob = some res) : Runs C B16 0 0 0 [vr a] [] (top, (a, 6, ob) :: H) (Ans none (top, (a, 6, res) :: H)) := by
  delta X_clear at hf
  refine Runs.aloadN d16_0 rfl <| Runs.iconst d16_1 ci_0 <| Runs.putI d16_2 w25 fS_1 (Or.inl w26) <| Runs.aloadN d16_5 rfl <| Runs.iconst d16_6 ci_0 <| Runs.putI d16_7 w27 fS_2 (Or.inl w28) <| Runs.aloadN d16_10 rfl <| Runs.iconst d16_11 ci_0 <| Runs.putZ (y := (0 : Int32)) d16_12 w33 fS_7 (Or.inl w34) rfl <| Runs.aloadN d16_15 rfl <| ?_
  refine bind_el hf fun q1 hg2 hf => ?_
  obtain rfl := Option.some.inj hf
  exact Runs.callP (N := B2) (W := 0) (as := []) (S' := []) d16_16 w35 w36 w37 rfl cw2 ar2 rk16_2_0 (by decide) rfl rfl (X_resetResult_pay hg2) <| ans0 <| Runs.retV d16_19 rfl ⟨by decide, by decide⟩ ⟨rfl, rfl⟩
theorem X_clear_pay {C : Ctx} {top : Nat} {a : Nat} {H : List (Nat × Nat × Rec)} {res : Rec} {ob : Rec} (hf : X_clear ob = some res) : Pays C B16 [.ref a] (top, (a, 6, ob) :: H) (Ans none (top, (a, 6, res) :: H)) :=
  Pays.of pnK (Nat.le_of_ble_eq_true rfl) (P := [vr a]) 0 rfl (X_clear_p ob hf)
def X_completeF (ob : Rec) : Option (Int32) :=
  if (gI ob 2) = (1 : Int32) then
    some (1 : Int32)
  else
    some (0 : Int32)
set_option maxRecDepth 65536 in
set_option maxHeartbeats 4000000 in
theorem X_completeF_p {C : Ctx} {top : Nat} {a : Nat} {H : List (Nat × Nat × Rec)} {ob : Rec} {res : Int32} (hf : X_completeF ob = some res) : Runs C B9 0 0 0 [vr a] [] (top, (a, 6, ob) :: H) (Ans (some (.int res)) (top, (a, 6, ob) :: H)) := by
  delta X_completeF at hf
  refine Runs.aloadN d9_0 rfl <| Runs.getI d9_1 w27 fS_2 <| Runs.iconst d9_4 ci_1 <| ?_
  refine ite_el hf (fun hc1 hf => ?_) (fun hc1 hf => ?_)
  · refine Runs.icN d9_5 (teq hc1).2 <| ?_
    obtain rfl := Option.some.inj hf
    exact Runs.iconst d9_8 ci_1 <| Runs.goto (pc' := 13) d9_9 (by decide) <| Runs.retZ (y := (1 : Int32)) d9_13 rfl ⟨by decide, by decide⟩ rfl ⟨rfl, rfl⟩
  · refine Runs.icY (pc' := 12) d9_5 (feq hc1).2 (by decide) <| ?_
    obtain rfl := Option.some.inj hf
    exact Runs.iconst d9_12 ci_0 <| Runs.retZ (y := (0 : Int32)) d9_13 rfl ⟨by decide, by decide⟩ rfl ⟨rfl, rfl⟩
theorem X_completeF_pay {C : Ctx} {top : Nat} {a : Nat} {H : List (Nat × Nat × Rec)} {ob : Rec} {res : Int32} (hf : X_completeF ob = some res) : Pays C B9 [.ref a] (top, (a, 6, ob) :: H) (Ans (some (.int res)) (top, (a, 6, ob) :: H)) :=
  Pays.of pnK (Nat.le_of_ble_eq_true rfl) (P := [vr a]) 0 rfl (X_completeF_p hf)
def X_copyTokensToSaved_w16 (NF : Nat) (k16 : Rec → Int32 → Int32 → Option (Rec)) (ob : Rec) (i1 : Int32) (i2 : Int32) : Option (Rec) :=
  if i2 < i1 then
    chk (32 : Int32) i2 <|
    chk (32 : Int32) i2 <|
    k16 (sA ob 1 i2 (gA ob 0 i2)) i1 (i2 + (1 : Int32))
  else
    some (sI ob 3 i1)
def X_copyTokensToSaved_l16 (NF : Nat) : Nat → Rec → Int32 → Int32 → Option (Rec)
  | 0, _, _, _ => none
  | n + 1, ob, i1, i2 => X_copyTokensToSaved_w16 NF (X_copyTokensToSaved_l16 NF n) ob i1 i2
set_option maxRecDepth 65536 in
set_option maxHeartbeats 4000000 in
theorem X_copyTokensToSaved_w16_p {C : Ctx} {top : Nat} {a : Nat} {H : List (Nat × Nat × Rec)} {res : Rec} {NF : Nat} (k16 : Rec → Int32 → Int32 → Option (Rec)) (hk16 : ∀ (ob : Rec) (i1 : Int32) (i2 : Int32), k16 ob i1 i2 = some res → Runs C B20 0 0 16 [vr a, vi i1, vi i2] [] (top, (a, 6, ob) :: H) (Ans none (top, (a, 6, res) :: H))) (ob : Rec) (i1 : Int32) (i2 : Int32) (hf : X_copyTokensToSaved_w16 NF k16 ob i1 i2 = some res) : Runs C B20 0 0 16 [vr a, vi i1, vi i2] [] (top, (a, 6, ob) :: H) (Ans none (top, (a, 6, res) :: H)) := by
  delta X_copyTokensToSaved_w16 at hf
  refine Runs.iloadN d20_16 rfl <| Runs.iloadN d20_17 rfl <| ?_
  refine ite_el hf (fun hc1 hf => ?_) (fun hc1 hf => ?_)
  · refine Runs.icN d20_18 (tlt hc1).2.1 <| ?_
    refine Runs.aloadN d20_21 rfl <| Runs.getA d20_22 fA_1 w12 (by decide) <| Runs.iloadN d20_25 rfl <| Runs.aloadN d20_26 rfl <| Runs.getA d20_27 fA_0 w10 (by decide) <| Runs.iloadN d20_30 rfl <| ?_
    refine chk_el hf fun hi2 hf => ?_
    refine Runs.ialoadA d20_31 fA_0 (by decide) hi2 <| ?_
    refine chk_el hf fun hi3 hf => ?_
    exact Runs.iastoreA d20_32 fA_1 (by decide) hi3 <| Runs.iinc (P' := [vr a, vi i1, vi (i2 + (1 : Int32))]) d20_33 ci_1 rfl (by decide) rfl <| Runs.goto (pc' := 16) d20_36 (by decide) <| hk16 (sA ob 1 i2 (gA ob 0 i2)) i1 (i2 + (1 : Int32)) hf
  · refine Runs.icY (pc' := 39) d20_18 (flt hc1).2.1 (by decide) <| ?_
    obtain rfl := Option.some.inj hf
    exact Runs.aloadN d20_39 rfl <| Runs.iloadN d20_40 rfl <| Runs.putI d20_41 w29 fS_3 (Or.inl w30) <| Runs.retV d20_44 rfl ⟨by decide, by decide⟩ ⟨rfl, rfl⟩
theorem X_copyTokensToSaved_l16_p {C : Ctx} {top : Nat} {a : Nat} {H : List (Nat × Nat × Rec)} {res : Rec} {NF : Nat} (n : Nat) (ob : Rec) (i1 : Int32) (i2 : Int32) (hf : X_copyTokensToSaved_l16 NF n ob i1 i2 = some res) : Runs C B20 0 0 16 [vr a, vi i1, vi i2] [] (top, (a, 6, ob) :: H) (Ans none (top, (a, 6, res) :: H)) := by
  induction n generalizing ob i1 i2 with
  | zero => cases (show (none : Option (Rec)) = some res from hf)
  | succ n ih => exact X_copyTokensToSaved_w16_p (X_copyTokensToSaved_l16 NF n) (fun ob i1 i2 h => ih _ _ _ h) ob i1 i2 hf
def X_copyTokensToSaved (NF : Nat) (ob : Rec) : Option (Rec) :=
  if (32 : Int32) < (gI ob 1) then
    X_copyTokensToSaved_l16 NF NF ob (32 : Int32) (0 : Int32)
  else
    X_copyTokensToSaved_l16 NF NF ob (gI ob 1) (0 : Int32)
set_option maxRecDepth 65536 in
set_option maxHeartbeats 4000000 in
theorem X_copyTokensToSaved_p {C : Ctx} {top : Nat} {a : Nat} {H : List (Nat × Nat × Rec)} {res : Rec} {NF : Nat} (ob : Rec) (hf : X_copyTokensToSaved NF ob = some res) : Runs C B20 0 0 0 [vr a, vn, vn] [] (top, (a, 6, ob) :: H) (Ans none (top, (a, 6, res) :: H)) := by
  delta X_copyTokensToSaved at hf
  refine Runs.aloadN d20_0 rfl <| Runs.getI d20_1 w25 fS_1 <| Runs.istoreN (P' := [vr a, vi (gI ob 1), vn]) d20_4 (by decide) rfl <| Runs.iloadN d20_5 rfl <| Runs.bipush d20_6 cb_32 <| ?_
  refine ite_el hf (fun hc4 hf => ?_) (fun hc4 hf => ?_)
  · refine Runs.icN d20_8 (tlt hc4).2.2.2 <| ?_
    exact Runs.bipush d20_11 cb_32 <| Runs.istoreN (P' := [vr a, vi (32 : Int32), vn]) d20_13 (by decide) rfl <| Runs.iconst d20_14 ci_0 <| Runs.istoreN (P' := [vr a, vi (32 : Int32), vi (0 : Int32)]) d20_15 (by decide) rfl <| X_copyTokensToSaved_l16_p NF ob (32 : Int32) (0 : Int32) hf
  · refine Runs.icY (pc' := 14) d20_8 (flt hc4).2.2.2 (by decide) <| ?_
    exact Runs.iconst d20_14 ci_0 <| Runs.istoreN (P' := [vr a, vi (gI ob 1), vi (0 : Int32)]) d20_15 (by decide) rfl <| X_copyTokensToSaved_l16_p NF ob (gI ob 1) (0 : Int32) hf
theorem X_copyTokensToSaved_pay {C : Ctx} {top : Nat} {a : Nat} {H : List (Nat × Nat × Rec)} {res : Rec} {NF : Nat} {ob : Rec} (hf : X_copyTokensToSaved NF ob = some res) : Pays C B20 [.ref a] (top, (a, 6, ob) :: H) (Ans none (top, (a, 6, res) :: H)) :=
  Pays.of pnK (Nat.le_of_ble_eq_true rfl) (P := [vr a, vn, vn]) 2 rfl (X_copyTokensToSaved_p ob hf)
def X_varWord (ob : Rec) (i1 : Int32) (i2 : Int32) : Option (Int64) :=
  if i1 = (0 : Int32) then
    some (-6148914691236517206 : Int64)
  else
  if i1 = (1 : Int32) then
    some (-3689348814741910324 : Int64)
  else
  if i1 = (2 : Int32) then
    some (-1085102592571150096 : Int64)
  else
  if i1 = (3 : Int32) then
    some (-71777214294589696 : Int64)
  else
  if i1 = (4 : Int32) then
    some (-281470681808896 : Int64)
  else
  if i1 = (5 : Int32) then
    some (-4294967296 : Int64)
  else
  if i1 = (6 : Int32) then
    if (i2 &&& (1 : Int32)) = (0 : Int32) then
      some (0 : Int64)
    else
      some (-1 : Int64)
  else
    if (i2 &&& (2 : Int32)) = (0 : Int32) then
      some (0 : Int64)
    else
      some (-1 : Int64)
set_option maxRecDepth 65536 in
set_option maxHeartbeats 4000000 in
theorem X_varWord_p {C : Ctx} {top : Nat} {a : Nat} {H : List (Nat × Nat × Rec)} {ob : Rec} {res : Int64} (i1 : Int32) (i2 : Int32) (hf : X_varWord ob i1 i2 = some res) : Runs C B25 0 0 0 [vr a, vi i1, vi i2] [] (top, (a, 6, ob) :: H) (Ans (some (.long res)) (top, (a, 6, ob) :: H)) := by
  delta X_varWord at hf
  refine Runs.iloadN d25_0 rfl <| ?_
  refine ite_el hf (fun hc1 hf => ?_) (fun hc1 hf => ?_)
  · refine Runs.tswI (pc' := 44) d25_1 (by rw [hc1]; decide) (by rw [hc1]; rfl) (by decide) <| ?_
    obtain rfl := Option.some.inj hf
    exact Runs.ldc2 d25_44 w212 <| Runs.retJ d25_47 rfl ⟨by decide, by decide⟩ ⟨rfl, rfl⟩
  refine ite_el hf (fun hc2 hf => ?_) (fun hc2 hf => ?_)
  · refine Runs.tswI (pc' := 48) d25_1 (by rw [hc2]; decide) (by rw [hc2]; rfl) (by decide) <| ?_
    obtain rfl := Option.some.inj hf
    exact Runs.ldc2 d25_48 w211 <| Runs.retJ d25_51 rfl ⟨by decide, by decide⟩ ⟨rfl, rfl⟩
  refine ite_el hf (fun hc3 hf => ?_) (fun hc3 hf => ?_)
  · refine Runs.tswI (pc' := 52) d25_1 (by rw [hc3]; decide) (by rw [hc3]; rfl) (by decide) <| ?_
    obtain rfl := Option.some.inj hf
    exact Runs.ldc2 d25_52 w169 <| Runs.retJ d25_55 rfl ⟨by decide, by decide⟩ ⟨rfl, rfl⟩
  refine ite_el hf (fun hc4 hf => ?_) (fun hc4 hf => ?_)
  · refine Runs.tswI (pc' := 56) d25_1 (by rw [hc4]; decide) (by rw [hc4]; rfl) (by decide) <| ?_
    obtain rfl := Option.some.inj hf
    exact Runs.ldc2 d25_56 w222 <| Runs.retJ d25_59 rfl ⟨by decide, by decide⟩ ⟨rfl, rfl⟩
  refine ite_el hf (fun hc5 hf => ?_) (fun hc5 hf => ?_)
  · refine Runs.tswI (pc' := 60) d25_1 (by rw [hc5]; decide) (by rw [hc5]; rfl) (by decide) <| ?_
    obtain rfl := Option.some.inj hf
    exact Runs.ldc2 d25_60 w221 <| Runs.retJ d25_63 rfl ⟨by decide, by decide⟩ ⟨rfl, rfl⟩
  refine ite_el hf (fun hc6 hf => ?_) (fun hc6 hf => ?_)
  · refine Runs.tswI (pc' := 64) d25_1 (by rw [hc6]; decide) (by rw [hc6]; rfl) (by decide) <| ?_
    obtain rfl := Option.some.inj hf
    exact Runs.ldc2 d25_64 w149 <| Runs.retJ d25_67 rfl ⟨by decide, by decide⟩ ⟨rfl, rfl⟩
  refine ite_el hf (fun hc7 hf => ?_) (fun hc7 hf => ?_)
  · refine Runs.tswI (pc' := 68) d25_1 (by rw [hc7]; decide) (by rw [hc7]; rfl) (by decide) <| ?_
    refine Runs.iloadN d25_68 rfl <| Runs.iconst d25_69 ci_1 <| Runs.iand d25_70 <| ?_
    refine ite_el hf (fun hc8 hf => ?_) (fun hc8 hf => ?_)
    · refine Runs.ifY (pc' := 80) d25_71 (teq hc8).1 (by decide) <| ?_
      obtain rfl := Option.some.inj hf
      exact Runs.lconst d25_80 cl_0 <| Runs.retJ d25_81 rfl ⟨by decide, by decide⟩ ⟨rfl, rfl⟩
    · refine Runs.ifN d25_71 (feq hc8).1 <| ?_
      obtain rfl := Option.some.inj hf
      exact Runs.ldc2 d25_74 w174 <| Runs.goto (pc' := 81) d25_77 (by decide) <| Runs.retJ d25_81 rfl ⟨by decide, by decide⟩ ⟨rfl, rfl⟩
  refine Runs.tswO (pc' := 82) d25_1 (by have u0 : Int32.toInt i1 ≠ 0 := fun u => hc1 (Int32.toInt_inj.mp (u.trans (by decide))); have u1 : Int32.toInt i1 ≠ 1 := fun u => hc2 (Int32.toInt_inj.mp (u.trans (by decide))); have u2 : Int32.toInt i1 ≠ 2 := fun u => hc3 (Int32.toInt_inj.mp (u.trans (by decide))); have u3 : Int32.toInt i1 ≠ 3 := fun u => hc4 (Int32.toInt_inj.mp (u.trans (by decide))); have u4 : Int32.toInt i1 ≠ 4 := fun u => hc5 (Int32.toInt_inj.mp (u.trans (by decide))); have u5 : Int32.toInt i1 ≠ 5 := fun u => hc6 (Int32.toInt_inj.mp (u.trans (by decide))); have u6 : Int32.toInt i1 ≠ 6 := fun u => hc7 (Int32.toInt_inj.mp (u.trans (by decide))); omega) (by decide) <| ?_
  refine Runs.iloadN d25_82 rfl <| Runs.iconst d25_83 ci_2 <| Runs.iand d25_84 <| ?_
  refine ite_el hf (fun hc9 hf => ?_) (fun hc9 hf => ?_)
  · refine Runs.ifY (pc' := 94) d25_85 (teq hc9).1 (by decide) <| ?_
    obtain rfl := Option.some.inj hf
    exact Runs.lconst d25_94 cl_0 <| Runs.retJ d25_95 rfl ⟨by decide, by decide⟩ ⟨rfl, rfl⟩
  · refine Runs.ifN d25_85 (feq hc9).1 <| ?_
    obtain rfl := Option.some.inj hf
    exact Runs.ldc2 d25_88 w174 <| Runs.goto (pc' := 95) d25_91 (by decide) <| Runs.retJ d25_95 rfl ⟨by decide, by decide⟩ ⟨rfl, rfl⟩
theorem X_varWord_pay {C : Ctx} {top : Nat} {a : Nat} {H : List (Nat × Nat × Rec)} {ob : Rec} {res : Int64} {i1 : Int32} {i2 : Int32} (hf : X_varWord ob i1 i2 = some res) : Pays C B25 [.ref a, .int i1, .int i2] (top, (a, 6, ob) :: H) (Ans (some (.long res)) (top, (a, 6, ob) :: H)) :=
  Pays.of pnK (Nat.le_of_ble_eq_true rfl) (P := [vr a, vi i1, vi i2]) 0 rfl (X_varWord_p i1 i2 hf)
def X_leafWord (ob : Rec) (i1 : Int32) (i2 : Int32) : Option (Int64) :=
  if i1 = (8 : Int32) then
    some (0 : Int64)
  else
    if i1 = (9 : Int32) then
      some (-1 : Int64)
    else
      (X_varWord ob i1 i2).bind fun r3 =>
      some r3
set_option maxRecDepth 65536 in
set_option maxHeartbeats 4000000 in
theorem X_leafWord_p {C : Ctx} {top : Nat} {a : Nat} {H : List (Nat × Nat × Rec)} {ob : Rec} {res : Int64} (i1 : Int32) (i2 : Int32) (hf : X_leafWord ob i1 i2 = some res) : Runs C B24 0 0 0 [vr a, vi i1, vi i2] [] (top, (a, 6, ob) :: H) (Ans (some (.long res)) (top, (a, 6, ob) :: H)) := by
  delta X_leafWord at hf
  refine Runs.iloadN d24_0 rfl <| Runs.bipush d24_1 cb_8 <| ?_
  refine ite_el hf (fun hc1 hf => ?_) (fun hc1 hf => ?_)
  · refine Runs.icN d24_3 (teq hc1).2 <| ?_
    obtain rfl := Option.some.inj hf
    exact Runs.lconst d24_6 cl_0 <| Runs.retJ d24_7 rfl ⟨by decide, by decide⟩ ⟨rfl, rfl⟩
  · refine Runs.icY (pc' := 8) d24_3 (feq hc1).2 (by decide) <| ?_
    refine Runs.iloadN d24_8 rfl <| Runs.bipush d24_9 cb_9 <| ?_
    refine ite_el hf (fun hc2 hf => ?_) (fun hc2 hf => ?_)
    · refine Runs.icN d24_11 (teq hc2).2 <| ?_
      obtain rfl := Option.some.inj hf
      exact Runs.ldc2 d24_14 w174 <| Runs.retJ d24_17 rfl ⟨by decide, by decide⟩ ⟨rfl, rfl⟩
    · refine Runs.icY (pc' := 18) d24_11 (feq hc2).2 (by decide) <| ?_
      refine Runs.aloadN d24_18 rfl <| Runs.iloadN d24_19 rfl <| Runs.iloadN d24_20 rfl <| ?_
      refine bind_el hf fun r3 hg4 hf => ?_
      obtain rfl := Option.some.inj hf
      exact Runs.callP (N := B25) (W := 0) (as := [.int i1, .int i2]) (S' := []) d24_21 w145 w146 w147 rfl cw25 ar25 rk24_25_0 (by decide) rfl rfl (X_varWord_pay hg4) <| ans1 <| Runs.retJ d24_24 rfl ⟨by decide, by decide⟩ ⟨rfl, rfl⟩
theorem X_leafWord_pay {C : Ctx} {top : Nat} {a : Nat} {H : List (Nat × Nat × Rec)} {ob : Rec} {res : Int64} {i1 : Int32} {i2 : Int32} (hf : X_leafWord ob i1 i2 = some res) : Pays C B24 [.ref a, .int i1, .int i2] (top, (a, 6, ob) :: H) (Ans (some (.long res)) (top, (a, 6, ob) :: H)) :=
  Pays.of pnK (Nat.le_of_ble_eq_true rfl) (P := [vr a, vi i1, vi i2]) 0 rfl (X_leafWord_p i1 i2 hf)
def X_pushLeaf_w7 (NF : Nat) (k7 : Rec → Int32 → Int32 → Int32 → Option (Rec)) (ob : Rec) (i1 : Int32) (i3 : Int32) (i4 : Int32) : Option (Rec) :=
  if i4 < (4 : Int32) then
    (X_leafWord ob i1 i4).bind fun r2 =>
    chk (128 : Int32) (i3 + i4) <|
    k7 (sJ ob 2 (i3 + i4) r2) i1 i3 (i4 + (1 : Int32))
  else
    some ob
def X_pushLeaf_l7 (NF : Nat) : Nat → Rec → Int32 → Int32 → Int32 → Option (Rec)
  | 0, _, _, _, _ => none
  | n + 1, ob, i1, i3, i4 => X_pushLeaf_w7 NF (X_pushLeaf_l7 NF n) ob i1 i3 i4
set_option maxRecDepth 65536 in
set_option maxHeartbeats 4000000 in
theorem X_pushLeaf_w7_p {C : Ctx} {top : Nat} {a : Nat} {H : List (Nat × Nat × Rec)} {res : Rec} {NF : Nat} (k7 : Rec → Int32 → Int32 → Int32 → Option (Rec)) (hk7 : ∀ (ob : Rec) (i1 : Int32) (i3 : Int32) (i4 : Int32), k7 ob i1 i3 i4 = some res → Runs C B23 0 0 7 [vr a, vi i1, vn, vi i3, vi i4] [] (top, (a, 6, ob) :: H) (Ans none (top, (a, 6, res) :: H))) (ob : Rec) (i1 : Int32) (i3 : Int32) (i4 : Int32) (hf : X_pushLeaf_w7 NF k7 ob i1 i3 i4 = some res) : Runs C B23 0 0 7 [vr a, vi i1, vn, vi i3, vi i4] [] (top, (a, 6, ob) :: H) (Ans none (top, (a, 6, res) :: H)) := by
  delta X_pushLeaf_w7 at hf
  refine Runs.iload d23_7 rfl <| Runs.iconst d23_9 ci_4 <| ?_
  refine ite_el hf (fun hc1 hf => ?_) (fun hc1 hf => ?_)
  · refine Runs.icN d23_10 (tlt hc1).2.1 <| ?_
    refine Runs.aloadN d23_13 rfl <| Runs.getA d23_14 fA_2 w15 (by decide) <| Runs.iloadN d23_17 rfl <| Runs.iload d23_18 rfl <| Runs.iadd d23_20 <| Runs.aloadN d23_21 rfl <| Runs.iloadN d23_22 rfl <| Runs.iload d23_23 rfl <| ?_
    refine bind_el hf fun r2 hg3 hf => ?_
    refine Runs.callP (N := B24) (W := 2) (as := [.int i1, .int i4]) (S' := [.int (i3 + i4), .ref (a + 1 + 2)]) d23_25 w141 w142 w143 rfl cw24 ar24 rk23_24_2 (by decide) rfl rfl (X_leafWord_pay hg3) <| ans1 <| ?_
    refine chk_el hf fun hi4 hf => ?_
    exact Runs.lastoreA d23_28 fA_2 (by decide) hi4 <| Runs.iinc (P' := [vr a, vi i1, vn, vi i3, vi (i4 + (1 : Int32))]) d23_29 ci_1 rfl (by decide) rfl <| Runs.goto (pc' := 7) d23_32 (by decide) <| hk7 (sJ ob 2 (i3 + i4) r2) i1 i3 (i4 + (1 : Int32)) hf
  · refine Runs.icY (pc' := 35) d23_10 (flt hc1).2.1 (by decide) <| ?_
    obtain rfl := Option.some.inj hf
    exact Runs.retV d23_35 rfl ⟨by decide, by decide⟩ ⟨rfl, rfl⟩
theorem X_pushLeaf_l7_p {C : Ctx} {top : Nat} {a : Nat} {H : List (Nat × Nat × Rec)} {res : Rec} {NF : Nat} (n : Nat) (ob : Rec) (i1 : Int32) (i3 : Int32) (i4 : Int32) (hf : X_pushLeaf_l7 NF n ob i1 i3 i4 = some res) : Runs C B23 0 0 7 [vr a, vi i1, vn, vi i3, vi i4] [] (top, (a, 6, ob) :: H) (Ans none (top, (a, 6, res) :: H)) := by
  induction n generalizing ob i1 i3 i4 with
  | zero => cases (show (none : Option (Rec)) = some res from hf)
  | succ n ih => exact X_pushLeaf_w7_p (X_pushLeaf_l7 NF n) (fun ob i1 i3 i4 h => ih _ _ _ _ h) ob i1 i3 i4 hf
def X_pushLeaf (NF : Nat) (ob : Rec) (i1 : Int32) (i2 : Int32) : Option (Rec) :=
  X_pushLeaf_l7 NF NF ob i1 (i2 * (4 : Int32)) (0 : Int32)
set_option maxRecDepth 65536 in
set_option maxHeartbeats 4000000 in
theorem X_pushLeaf_p {C : Ctx} {top : Nat} {a : Nat} {H : List (Nat × Nat × Rec)} {res : Rec} {NF : Nat} (ob : Rec) (i1 : Int32) (i2 : Int32) (hf : X_pushLeaf NF ob i1 i2 = some res) : Runs C B23 0 0 0 [vr a, vi i1, vi i2, vn, vn] [] (top, (a, 6, ob) :: H) (Ans none (top, (a, 6, res) :: H)) := by
  delta X_pushLeaf at hf
  exact Runs.iloadN d23_0 rfl <| Runs.iconst d23_1 ci_4 <| Runs.imul d23_2 <| Runs.istoreN (P' := [vr a, vi i1, vi i2, vi (i2 * (4 : Int32)), vn]) d23_3 (by decide) rfl <| Runs.iconst d23_4 ci_0 <| Runs.istore (P' := [vr a, vi i1, vi i2, vi (i2 * (4 : Int32)), vi (0 : Int32)]) d23_5 (by decide) rfl <| Runs.forget [true, true, false, true, true] rfl <| X_pushLeaf_l7_p NF ob i1 (i2 * (4 : Int32)) (0 : Int32) hf
theorem X_pushLeaf_pay {C : Ctx} {top : Nat} {a : Nat} {H : List (Nat × Nat × Rec)} {res : Rec} {NF : Nat} {ob : Rec} {i1 : Int32} {i2 : Int32} (hf : X_pushLeaf NF ob i1 i2 = some res) : Pays C B23 [.ref a, .int i1, .int i2] (top, (a, 6, ob) :: H) (Ans none (top, (a, 6, res) :: H)) :=
  Pays.of pnK (Nat.le_of_ble_eq_true rfl) (P := [vr a, vi i1, vi i2, vn, vn]) 2 rfl (X_pushLeaf_p ob i1 i2 hf)
def X_negateSlot_w6 (NF : Nat) (k6 : Rec → Int32 → Int32 → Option (Rec)) (ob : Rec) (i2 : Int32) (i3 : Int32) : Option (Rec) :=
  if i3 < (4 : Int32) then
    chk (128 : Int32) (i2 + i3) <|
    chk (128 : Int32) (i2 + i3) <|
    k6 (sJ ob 2 (i2 + i3) ((gJ ob 2 (i2 + i3)) ^^^ (-1 : Int64))) i2 (i3 + (1 : Int32))
  else
    some ob
def X_negateSlot_l6 (NF : Nat) : Nat → Rec → Int32 → Int32 → Option (Rec)
  | 0, _, _, _ => none
  | n + 1, ob, i2, i3 => X_negateSlot_w6 NF (X_negateSlot_l6 NF n) ob i2 i3
set_option maxRecDepth 65536 in
set_option maxHeartbeats 4000000 in
theorem X_negateSlot_w6_p {C : Ctx} {top : Nat} {a : Nat} {H : List (Nat × Nat × Rec)} {res : Rec} {NF : Nat} (k6 : Rec → Int32 → Int32 → Option (Rec)) (hk6 : ∀ (ob : Rec) (i2 : Int32) (i3 : Int32), k6 ob i2 i3 = some res → Runs C B37 0 0 6 [vr a, vn, vi i2, vi i3] [] (top, (a, 6, ob) :: H) (Ans none (top, (a, 6, res) :: H))) (ob : Rec) (i2 : Int32) (i3 : Int32) (hf : X_negateSlot_w6 NF k6 ob i2 i3 = some res) : Runs C B37 0 0 6 [vr a, vn, vi i2, vi i3] [] (top, (a, 6, ob) :: H) (Ans none (top, (a, 6, res) :: H)) := by
  delta X_negateSlot_w6 at hf
  refine Runs.iloadN d37_6 rfl <| Runs.iconst d37_7 ci_4 <| ?_
  refine ite_el hf (fun hc1 hf => ?_) (fun hc1 hf => ?_)
  · refine Runs.icN d37_8 (tlt hc1).2.1 <| ?_
    refine Runs.aloadN d37_11 rfl <| Runs.getA d37_12 fA_2 w15 (by decide) <| Runs.iloadN d37_15 rfl <| Runs.iloadN d37_16 rfl <| Runs.iadd d37_17 <| Runs.aloadN d37_18 rfl <| Runs.getA d37_19 fA_2 w15 (by decide) <| Runs.iloadN d37_22 rfl <| Runs.iloadN d37_23 rfl <| Runs.iadd d37_24 <| ?_
    refine chk_el hf fun hi2 hf => ?_
    refine Runs.laloadA d37_25 fA_2 (by decide) hi2 <| Runs.ldc2 d37_26 w174 <| Runs.lxor d37_29 <| ?_
    refine chk_el hf fun hi3 hf => ?_
    exact Runs.lastoreA d37_30 fA_2 (by decide) hi3 <| Runs.iinc (P' := [vr a, vn, vi i2, vi (i3 + (1 : Int32))]) d37_31 ci_1 rfl (by decide) rfl <| Runs.goto (pc' := 6) d37_34 (by decide) <| hk6 (sJ ob 2 (i2 + i3) ((gJ ob 2 (i2 + i3)) ^^^ (-1 : Int64))) i2 (i3 + (1 : Int32)) hf
  · refine Runs.icY (pc' := 37) d37_8 (flt hc1).2.1 (by decide) <| ?_
    obtain rfl := Option.some.inj hf
    exact Runs.retV d37_37 rfl ⟨by decide, by decide⟩ ⟨rfl, rfl⟩
theorem X_negateSlot_l6_p {C : Ctx} {top : Nat} {a : Nat} {H : List (Nat × Nat × Rec)} {res : Rec} {NF : Nat} (n : Nat) (ob : Rec) (i2 : Int32) (i3 : Int32) (hf : X_negateSlot_l6 NF n ob i2 i3 = some res) : Runs C B37 0 0 6 [vr a, vn, vi i2, vi i3] [] (top, (a, 6, ob) :: H) (Ans none (top, (a, 6, res) :: H)) := by
  induction n generalizing ob i2 i3 with
  | zero => cases (show (none : Option (Rec)) = some res from hf)
  | succ n ih => exact X_negateSlot_w6_p (X_negateSlot_l6 NF n) (fun ob i2 i3 h => ih _ _ _ h) ob i2 i3 hf
def X_negateSlot (NF : Nat) (ob : Rec) (i1 : Int32) : Option (Rec) :=
  X_negateSlot_l6 NF NF ob (i1 * (4 : Int32)) (0 : Int32)
set_option maxRecDepth 65536 in
set_option maxHeartbeats 4000000 in
theorem X_negateSlot_p {C : Ctx} {top : Nat} {a : Nat} {H : List (Nat × Nat × Rec)} {res : Rec} {NF : Nat} (ob : Rec) (i1 : Int32) (hf : X_negateSlot NF ob i1 = some res) : Runs C B37 0 0 0 [vr a, vi i1, vn, vn] [] (top, (a, 6, ob) :: H) (Ans none (top, (a, 6, res) :: H)) := by
  delta X_negateSlot at hf
  exact Runs.iloadN d37_0 rfl <| Runs.iconst d37_1 ci_4 <| Runs.imul d37_2 <| Runs.istoreN (P' := [vr a, vi i1, vi (i1 * (4 : Int32)), vn]) d37_3 (by decide) rfl <| Runs.iconst d37_4 ci_0 <| Runs.istoreN (P' := [vr a, vi i1, vi (i1 * (4 : Int32)), vi (0 : Int32)]) d37_5 (by decide) rfl <| Runs.forget [true, false, true, true] rfl <| X_negateSlot_l6_p NF ob (i1 * (4 : Int32)) (0 : Int32) hf
theorem X_negateSlot_pay {C : Ctx} {top : Nat} {a : Nat} {H : List (Nat × Nat × Rec)} {res : Rec} {NF : Nat} {ob : Rec} {i1 : Int32} (hf : X_negateSlot NF ob i1 = some res) : Pays C B37 [.ref a, .int i1] (top, (a, 6, ob) :: H) (Ans none (top, (a, 6, res) :: H)) :=
  Pays.of pnK (Nat.le_of_ble_eq_true rfl) (P := [vr a, vi i1, vn, vn]) 2 rfl (X_negateSlot_p ob i1 hf)
def X_combine (ob : Rec) (i1 : Int32) (l2 : Int64) (l4 : Int64) : Option (Int64) :=
  if i1 = (11 : Int32) then
    some (l2 &&& l4)
  else
  if i1 = (12 : Int32) then
    some (l2 ||| l4)
  else
  if i1 = (13 : Int32) then
    some ((l2 ^^^ (-1 : Int64)) ||| l4)
  else
  if i1 = (14 : Int32) then
    some ((l2 ^^^ l4) ^^^ (-1 : Int64))
  else
    some (l2 ^^^ l4)
set_option maxRecDepth 65536 in
set_option maxHeartbeats 4000000 in
theorem X_combine_p {C : Ctx} {top : Nat} {a : Nat} {H : List (Nat × Nat × Rec)} {ob : Rec} {res : Int64} (i1 : Int32) (l2 : Int64) (l4 : Int64) (hf : X_combine ob i1 l2 l4 = some res) : Runs C B41 0 0 0 [vr a, vi i1, vl l2, v2, vl l4, v2] [] (top, (a, 6, ob) :: H) (Ans (some (.long res)) (top, (a, 6, ob) :: H)) := by
  delta X_combine at hf
  refine Runs.iloadN d41_0 rfl <| ?_
  refine ite_el hf (fun hc1 hf => ?_) (fun hc1 hf => ?_)
  · refine Runs.tswI (pc' := 32) d41_1 (by rw [hc1]; decide) (by rw [hc1]; rfl) (by decide) <| ?_
    obtain rfl := Option.some.inj hf
    exact Runs.lloadN d41_32 rfl <| Runs.lload d41_33 rfl <| Runs.land d41_35 <| Runs.retJ d41_36 rfl ⟨by decide, by decide⟩ ⟨rfl, rfl⟩
  refine ite_el hf (fun hc2 hf => ?_) (fun hc2 hf => ?_)
  · refine Runs.tswI (pc' := 37) d41_1 (by rw [hc2]; decide) (by rw [hc2]; rfl) (by decide) <| ?_
    obtain rfl := Option.some.inj hf
    exact Runs.lloadN d41_37 rfl <| Runs.lload d41_38 rfl <| Runs.lor d41_40 <| Runs.retJ d41_41 rfl ⟨by decide, by decide⟩ ⟨rfl, rfl⟩
  refine ite_el hf (fun hc3 hf => ?_) (fun hc3 hf => ?_)
  · refine Runs.tswI (pc' := 42) d41_1 (by rw [hc3]; decide) (by rw [hc3]; rfl) (by decide) <| ?_
    obtain rfl := Option.some.inj hf
    exact Runs.lloadN d41_42 rfl <| Runs.ldc2 d41_43 w174 <| Runs.lxor d41_46 <| Runs.lload d41_47 rfl <| Runs.lor d41_49 <| Runs.retJ d41_50 rfl ⟨by decide, by decide⟩ ⟨rfl, rfl⟩
  refine ite_el hf (fun hc4 hf => ?_) (fun hc4 hf => ?_)
  · refine Runs.tswI (pc' := 51) d41_1 (by rw [hc4]; decide) (by rw [hc4]; rfl) (by decide) <| ?_
    obtain rfl := Option.some.inj hf
    exact Runs.lloadN d41_51 rfl <| Runs.lload d41_52 rfl <| Runs.lxor d41_54 <| Runs.ldc2 d41_55 w174 <| Runs.lxor d41_58 <| Runs.retJ d41_59 rfl ⟨by decide, by decide⟩ ⟨rfl, rfl⟩
  refine Runs.tswO (pc' := 60) d41_1 (by have u0 : Int32.toInt i1 ≠ 11 := fun u => hc1 (Int32.toInt_inj.mp (u.trans (by decide))); have u1 : Int32.toInt i1 ≠ 12 := fun u => hc2 (Int32.toInt_inj.mp (u.trans (by decide))); have u2 : Int32.toInt i1 ≠ 13 := fun u => hc3 (Int32.toInt_inj.mp (u.trans (by decide))); have u3 : Int32.toInt i1 ≠ 14 := fun u => hc4 (Int32.toInt_inj.mp (u.trans (by decide))); omega) (by decide) <| ?_
  obtain rfl := Option.some.inj hf
  exact Runs.lloadN d41_60 rfl <| Runs.lload d41_61 rfl <| Runs.lxor d41_63 <| Runs.retJ d41_64 rfl ⟨by decide, by decide⟩ ⟨rfl, rfl⟩
theorem X_combine_pay {C : Ctx} {top : Nat} {a : Nat} {H : List (Nat × Nat × Rec)} {ob : Rec} {res : Int64} {i1 : Int32} {l2 : Int64} {l4 : Int64} (hf : X_combine ob i1 l2 l4 = some res) : Pays C B41 [.ref a, .int i1, .long l2, .long l4] (top, (a, 6, ob) :: H) (Ans (some (.long res)) (top, (a, 6, ob) :: H)) :=
  Pays.of pnK (Nat.le_of_ble_eq_true rfl) (P := [vr a, vi i1, vl l2, v2, vl l4, v2]) 0 rfl (X_combine_p i1 l2 l4 hf)
def X_combineSlots_w7 (NF : Nat) (k7 : Rec → Int32 → Int32 → Int32 → Option (Rec)) (ob : Rec) (i1 : Int32) (i3 : Int32) (i4 : Int32) : Option (Rec) :=
  if i4 < (4 : Int32) then
    chk (128 : Int32) (i3 + i4) <|
    chk (128 : Int32) ((i3 + (4 : Int32)) + i4) <|
    (X_combine ob i1 (gJ ob 2 (i3 + i4)) (gJ ob 2 ((i3 + (4 : Int32)) + i4))).bind fun r4 =>
    chk (128 : Int32) (i3 + i4) <|
    k7 (sJ ob 2 (i3 + i4) r4) i1 i3 (i4 + (1 : Int32))
  else
    some ob
def X_combineSlots_l7 (NF : Nat) : Nat → Rec → Int32 → Int32 → Int32 → Option (Rec)
  | 0, _, _, _, _ => none
  | n + 1, ob, i1, i3, i4 => X_combineSlots_w7 NF (X_combineSlots_l7 NF n) ob i1 i3 i4
set_option maxRecDepth 65536 in
set_option maxHeartbeats 4000000 in
theorem X_combineSlots_w7_p {C : Ctx} {top : Nat} {a : Nat} {H : List (Nat × Nat × Rec)} {res : Rec} {NF : Nat} (k7 : Rec → Int32 → Int32 → Int32 → Option (Rec)) (hk7 : ∀ (ob : Rec) (i1 : Int32) (i3 : Int32) (i4 : Int32), k7 ob i1 i3 i4 = some res → Runs C B40 0 0 7 [vr a, vi i1, vn, vi i3, vi i4, vn, vn, vn, vn] [] (top, (a, 6, ob) :: H) (Ans none (top, (a, 6, res) :: H))) (ob : Rec) (i1 : Int32) (i3 : Int32) (i4 : Int32) (hf : X_combineSlots_w7 NF k7 ob i1 i3 i4 = some res) : Runs C B40 0 0 7 [vr a, vi i1, vn, vi i3, vi i4, vn, vn, vn, vn] [] (top, (a, 6, ob) :: H) (Ans none (top, (a, 6, res) :: H)) := by
  delta X_combineSlots_w7 at hf
  refine Runs.iload d40_7 rfl <| Runs.iconst d40_9 ci_4 <| ?_
  refine ite_el hf (fun hc1 hf => ?_) (fun hc1 hf => ?_)
  · refine Runs.icN d40_10 (tlt hc1).2.1 <| ?_
    refine Runs.aloadN d40_13 rfl <| Runs.getA d40_14 fA_2 w15 (by decide) <| Runs.iloadN d40_17 rfl <| Runs.iload d40_18 rfl <| Runs.iadd d40_20 <| ?_
    refine chk_el hf fun hi2 hf => ?_
    refine Runs.laloadA d40_21 fA_2 (by decide) hi2 <| Runs.lstore (P' := [vr a, vi i1, vn, vi i3, vi i4, vl (gJ ob 2 (i3 + i4)), v2, vn, vn]) d40_22 (by decide) rfl <| Runs.aloadN d40_24 rfl <| Runs.getA d40_25 fA_2 w15 (by decide) <| Runs.iloadN d40_28 rfl <| Runs.iconst d40_29 ci_4 <| Runs.iadd d40_30 <| Runs.iload d40_31 rfl <| Runs.iadd d40_33 <| ?_
    refine chk_el hf fun hi3 hf => ?_
    refine Runs.laloadA d40_34 fA_2 (by decide) hi3 <| Runs.lstore (P' := [vr a, vi i1, vn, vi i3, vi i4, vl (gJ ob 2 (i3 + i4)), v2, vl (gJ ob 2 ((i3 + (4 : Int32)) + i4)), v2]) d40_35 (by decide) rfl <| Runs.aloadN d40_37 rfl <| Runs.getA d40_38 fA_2 w15 (by decide) <| Runs.iloadN d40_41 rfl <| Runs.iload d40_42 rfl <| Runs.iadd d40_44 <| Runs.aloadN d40_45 rfl <| Runs.iloadN d40_46 rfl <| Runs.lload d40_47 rfl <| Runs.lload d40_49 rfl <| ?_
    refine bind_el hf fun r4 hg5 hf => ?_
    refine Runs.callP (N := B41) (W := 2) (as := [.int i1, .long (gJ ob 2 (i3 + i4)), .long (gJ ob 2 ((i3 + (4 : Int32)) + i4))]) (S' := [.int (i3 + i4), .ref (a + 1 + 2)]) d40_51 w217 w218 w219 rfl cw41 ar41 rk40_41_2 (by decide) rfl rfl (X_combine_pay hg5) <| ans1 <| ?_
    refine chk_el hf fun hi6 hf => ?_
    exact Runs.lastoreA d40_54 fA_2 (by decide) hi6 <| Runs.iinc (P' := [vr a, vi i1, vn, vi i3, vi (i4 + (1 : Int32)), vl (gJ ob 2 (i3 + i4)), v2, vl (gJ ob 2 ((i3 + (4 : Int32)) + i4)), v2]) d40_55 ci_1 rfl (by decide) rfl <| Runs.goto (pc' := 7) d40_58 (by decide) <| Runs.forget [true, true, false, true, true, false, false, false, false] rfl <| hk7 (sJ ob 2 (i3 + i4) r4) i1 i3 (i4 + (1 : Int32)) hf
  · refine Runs.icY (pc' := 61) d40_10 (flt hc1).2.1 (by decide) <| ?_
    obtain rfl := Option.some.inj hf
    exact Runs.retV d40_61 rfl ⟨by decide, by decide⟩ ⟨rfl, rfl⟩
theorem X_combineSlots_l7_p {C : Ctx} {top : Nat} {a : Nat} {H : List (Nat × Nat × Rec)} {res : Rec} {NF : Nat} (n : Nat) (ob : Rec) (i1 : Int32) (i3 : Int32) (i4 : Int32) (hf : X_combineSlots_l7 NF n ob i1 i3 i4 = some res) : Runs C B40 0 0 7 [vr a, vi i1, vn, vi i3, vi i4, vn, vn, vn, vn] [] (top, (a, 6, ob) :: H) (Ans none (top, (a, 6, res) :: H)) := by
  induction n generalizing ob i1 i3 i4 with
  | zero => cases (show (none : Option (Rec)) = some res from hf)
  | succ n ih => exact X_combineSlots_w7_p (X_combineSlots_l7 NF n) (fun ob i1 i3 i4 h => ih _ _ _ _ h) ob i1 i3 i4 hf
def X_combineSlots (NF : Nat) (ob : Rec) (i1 : Int32) (i2 : Int32) : Option (Rec) :=
  X_combineSlots_l7 NF NF ob i1 (i2 * (4 : Int32)) (0 : Int32)
set_option maxRecDepth 65536 in
set_option maxHeartbeats 4000000 in
theorem X_combineSlots_p {C : Ctx} {top : Nat} {a : Nat} {H : List (Nat × Nat × Rec)} {res : Rec} {NF : Nat} (ob : Rec) (i1 : Int32) (i2 : Int32) (hf : X_combineSlots NF ob i1 i2 = some res) : Runs C B40 0 0 0 [vr a, vi i1, vi i2, vn, vn, vn, vn, vn, vn] [] (top, (a, 6, ob) :: H) (Ans none (top, (a, 6, res) :: H)) := by
  delta X_combineSlots at hf
  exact Runs.iloadN d40_0 rfl <| Runs.iconst d40_1 ci_4 <| Runs.imul d40_2 <| Runs.istoreN (P' := [vr a, vi i1, vi i2, vi (i2 * (4 : Int32)), vn, vn, vn, vn, vn]) d40_3 (by decide) rfl <| Runs.iconst d40_4 ci_0 <| Runs.istore (P' := [vr a, vi i1, vi i2, vi (i2 * (4 : Int32)), vi (0 : Int32), vn, vn, vn, vn]) d40_5 (by decide) rfl <| Runs.forget [true, true, false, true, true, false, false, false, false] rfl <| X_combineSlots_l7_p NF ob i1 (i2 * (4 : Int32)) (0 : Int32) hf
theorem X_combineSlots_pay {C : Ctx} {top : Nat} {a : Nat} {H : List (Nat × Nat × Rec)} {res : Rec} {NF : Nat} {ob : Rec} {i1 : Int32} {i2 : Int32} (hf : X_combineSlots NF ob i1 i2 = some res) : Pays C B40 [.ref a, .int i1, .int i2] (top, (a, 6, ob) :: H) (Ans none (top, (a, 6, res) :: H)) :=
  Pays.of pnK (Nat.le_of_ble_eq_true rfl) (P := [vr a, vi i1, vi i2, vn, vn, vn, vn, vn, vn]) 6 rfl (X_combineSlots_p ob i1 i2 hf)
def X_step (NF : Nat) (ob : Rec) (i1 : Int32) (i2 : Int32) : Option (Int32 × Rec) :=
  (X_arity ob i1).bind fun r1 =>
  if i2 < r1 then
    some (i2, ob)
  else
    if (32 : Int32) < i2 then
      some (i2, ob)
    else
      if r1 = (0 : Int32) then
        if i2 < (32 : Int32) then
          (X_pushLeaf NF ob i1 i2).bind fun q7 =>
          some ((i2 + (1 : Int32)), q7)
        else
          some (i2, ob)
      else
        if r1 = (1 : Int32) then
          (X_negateSlot NF ob (i2 - (1 : Int32))).bind fun q10 =>
          some (i2, q10)
        else
          (X_combineSlots NF ob i1 (i2 - (2 : Int32))).bind fun q12 =>
          some ((i2 - (1 : Int32)), q12)
set_option maxRecDepth 65536 in
set_option maxHeartbeats 4000000 in
theorem X_step_p {C : Ctx} {top : Nat} {a : Nat} {H : List (Nat × Nat × Rec)} {res : Int32 × Rec} {NF : Nat} (ob : Rec) (i1 : Int32) (i2 : Int32) (hf : X_step NF ob i1 i2 = some res) : Runs C B22 0 0 0 [vr a, vi i1, vi i2, vn] [] (top, (a, 6, ob) :: H) (Ans (some (.int res.1)) (top, (a, 6, res.2) :: H)) := by
  delta X_step at hf
  refine Runs.aloadN d22_0 rfl <| Runs.iloadN d22_1 rfl <| ?_
  refine bind_el hf fun r1 hg2 hf => ?_
  refine Runs.callP (N := B4) (W := 0) (as := [.int i1]) (S' := []) d22_2 w49 w50 w51 rfl cw4 ar4 rk22_4_0 (by decide) rfl rfl (X_arity_pay hg2) <| ans1 <| Runs.istoreN (P' := [vr a, vi i1, vi i2, vi r1]) d22_5 (by decide) rfl <| Runs.iloadN d22_6 rfl <| Runs.iloadN d22_7 rfl <| ?_
  refine ite_el hf (fun hc3 hf => ?_) (fun hc3 hf => ?_)
  · refine Runs.icY (pc' := 17) d22_8 (tlt hc3).2.2.1 (by decide) <| ?_
    obtain rfl := Option.some.inj hf
    exact Runs.iloadN d22_17 rfl <| Runs.retI d22_18 rfl ⟨by decide, by decide⟩ ⟨rfl, rfl⟩
  · refine Runs.icN d22_8 (flt hc3).2.2.1 <| ?_
    refine Runs.iloadN d22_11 rfl <| Runs.bipush d22_12 cb_32 <| ?_
    refine ite_el hf (fun hc4 hf => ?_) (fun hc4 hf => ?_)
    · refine Runs.icN d22_14 (tlt hc4).2.2.2 <| ?_
      obtain rfl := Option.some.inj hf
      exact Runs.iloadN d22_17 rfl <| Runs.retI d22_18 rfl ⟨by decide, by decide⟩ ⟨rfl, rfl⟩
    · refine Runs.icY (pc' := 19) d22_14 (flt hc4).2.2.2 (by decide) <| ?_
      refine Runs.iloadN d22_19 rfl <| ?_
      refine ite_el hf (fun hc5 hf => ?_) (fun hc5 hf => ?_)
      · refine Runs.ifN d22_20 (teq hc5).2 <| ?_
        refine Runs.iloadN d22_23 rfl <| Runs.bipush d22_24 cb_32 <| ?_
        refine ite_el hf (fun hc6 hf => ?_) (fun hc6 hf => ?_)
        · refine Runs.icY (pc' := 31) d22_26 (tlt hc6).1 (by decide) <| ?_
          refine Runs.aloadN d22_31 rfl <| Runs.iloadN d22_32 rfl <| Runs.iloadN d22_33 rfl <| ?_
          refine bind_el hf fun q7 hg8 hf => ?_
          obtain rfl := Option.some.inj hf
          exact Runs.callP (N := B23) (W := 0) (as := [.int i1, .int i2]) (S' := []) d22_34 w137 w138 w139 rfl cw23 ar23 rk22_23_0 (by decide) rfl rfl (X_pushLeaf_pay hg8) <| ans0 <| Runs.iloadN d22_37 rfl <| Runs.iconst d22_38 ci_1 <| Runs.iadd d22_39 <| Runs.retI d22_40 rfl ⟨by decide, by decide⟩ ⟨rfl, rfl⟩
        · refine Runs.icN d22_26 (flt hc6).1 <| ?_
          obtain rfl := Option.some.inj hf
          exact Runs.iloadN d22_29 rfl <| Runs.retI d22_30 rfl ⟨by decide, by decide⟩ ⟨rfl, rfl⟩
      · refine Runs.ifY (pc' := 41) d22_20 (feq hc5).2 (by decide) <| ?_
        refine Runs.iloadN d22_41 rfl <| Runs.iconst d22_42 ci_1 <| ?_
        refine ite_el hf (fun hc9 hf => ?_) (fun hc9 hf => ?_)
        · refine Runs.icN d22_43 (teq hc9).2 <| ?_
          refine Runs.aloadN d22_46 rfl <| Runs.iloadN d22_47 rfl <| Runs.iconst d22_48 ci_1 <| Runs.isub d22_49 <| ?_
          refine bind_el hf fun q10 hg11 hf => ?_
          obtain rfl := Option.some.inj hf
          exact Runs.callP (N := B37) (W := 0) (as := [.int (i2 - (1 : Int32))]) (S' := []) d22_50 w199 w200 w201 rfl cw37 ar37 rk22_37_0 (by decide) rfl rfl (X_negateSlot_pay hg11) <| ans0 <| Runs.iloadN d22_53 rfl <| Runs.retI d22_54 rfl ⟨by decide, by decide⟩ ⟨rfl, rfl⟩
        · refine Runs.icY (pc' := 55) d22_43 (feq hc9).2 (by decide) <| ?_
          refine Runs.aloadN d22_55 rfl <| Runs.iloadN d22_56 rfl <| Runs.iloadN d22_57 rfl <| Runs.iconst d22_58 ci_2 <| Runs.isub d22_59 <| ?_
          refine bind_el hf fun q12 hg13 hf => ?_
          obtain rfl := Option.some.inj hf
          exact Runs.callP (N := B40) (W := 0) (as := [.int i1, .int (i2 - (2 : Int32))]) (S' := []) d22_60 w213 w214 w215 rfl cw40 ar40 rk22_40_0 (by decide) rfl rfl (X_combineSlots_pay hg13) <| ans0 <| Runs.iloadN d22_63 rfl <| Runs.iconst d22_64 ci_1 <| Runs.isub d22_65 <| Runs.retI d22_66 rfl ⟨by decide, by decide⟩ ⟨rfl, rfl⟩
theorem X_step_pay {C : Ctx} {top : Nat} {a : Nat} {H : List (Nat × Nat × Rec)} {res : Int32 × Rec} {NF : Nat} {ob : Rec} {i1 : Int32} {i2 : Int32} (hf : X_step NF ob i1 i2 = some res) : Pays C B22 [.ref a, .int i1, .int i2] (top, (a, 6, ob) :: H) (Ans (some (.int res.1)) (top, (a, 6, res.2) :: H)) :=
  Pays.of pnK (Nat.le_of_ble_eq_true rfl) (P := [vr a, vi i1, vi i2, vn]) 1 rfl (X_step_p ob i1 i2 hf)
def X_storeTopIntoF_w2 (NF : Nat) (k2 : Rec → Int32 → Int32 → Option (Rec)) (ob : Rec) (i1 : Int32) (i2 : Int32) : Option (Rec) :=
  if i2 < (4 : Int32) then
    if i1 < (1 : Int32) then
      chk (4 : Int32) i2 <|
      k2 (sJ ob 3 i2 (0 : Int64)) i1 (i2 + (1 : Int32))
    else
      if (32 : Int32) < i1 then
        chk (4 : Int32) i2 <|
        k2 (sJ ob 3 i2 (0 : Int64)) i1 (i2 + (1 : Int32))
      else
        chk (128 : Int32) (((i1 - (1 : Int32)) * (4 : Int32)) + i2) <|
        chk (4 : Int32) i2 <|
        k2 (sJ ob 3 i2 (gJ ob 2 (((i1 - (1 : Int32)) * (4 : Int32)) + i2))) i1 (i2 + (1 : Int32))
  else
    some ob
def X_storeTopIntoF_l2 (NF : Nat) : Nat → Rec → Int32 → Int32 → Option (Rec)
  | 0, _, _, _ => none
  | n + 1, ob, i1, i2 => X_storeTopIntoF_w2 NF (X_storeTopIntoF_l2 NF n) ob i1 i2
set_option maxRecDepth 65536 in
set_option maxHeartbeats 4000000 in
theorem X_storeTopIntoF_w2_p {C : Ctx} {top : Nat} {a : Nat} {H : List (Nat × Nat × Rec)} {res : Rec} {NF : Nat} (k2 : Rec → Int32 → Int32 → Option (Rec)) (hk2 : ∀ (ob : Rec) (i1 : Int32) (i2 : Int32), k2 ob i1 i2 = some res → Runs C B26 0 0 2 [vr a, vi i1, vi i2, vn, vn] [] (top, (a, 6, ob) :: H) (Ans none (top, (a, 6, res) :: H))) (ob : Rec) (i1 : Int32) (i2 : Int32) (hf : X_storeTopIntoF_w2 NF k2 ob i1 i2 = some res) : Runs C B26 0 0 2 [vr a, vi i1, vi i2, vn, vn] [] (top, (a, 6, ob) :: H) (Ans none (top, (a, 6, res) :: H)) := by
  delta X_storeTopIntoF_w2 at hf
  refine Runs.iloadN d26_2 rfl <| Runs.iconst d26_3 ci_4 <| ?_
  refine ite_el hf (fun hc1 hf => ?_) (fun hc1 hf => ?_)
  · refine Runs.icN d26_4 (tlt hc1).2.1 <| ?_
    refine Runs.lconst d26_7 cl_0 <| Runs.lstoreN (P' := [vr a, vi i1, vi i2, vl (0 : Int64), v2]) d26_8 (by decide) rfl <| Runs.iloadN d26_9 rfl <| Runs.iconst d26_10 ci_1 <| ?_
    refine ite_el hf (fun hc2 hf => ?_) (fun hc2 hf => ?_)
    · refine Runs.icY (pc' := 33) d26_11 (tlt hc2).1 (by decide) <| ?_
      refine Runs.aloadN d26_33 rfl <| Runs.getA d26_34 fA_3 w17 (by decide) <| Runs.iloadN d26_37 rfl <| Runs.lloadN d26_38 rfl <| ?_
      refine chk_el hf fun hi3 hf => ?_
      exact Runs.lastoreA d26_39 fA_3 (by decide) hi3 <| Runs.iinc (P' := [vr a, vi i1, vi (i2 + (1 : Int32)), vl (0 : Int64), v2]) d26_40 ci_1 rfl (by decide) rfl <| Runs.goto (pc' := 2) d26_43 (by decide) <| Runs.forget [true, true, true, false, false] rfl <| hk2 (sJ ob 3 i2 (0 : Int64)) i1 (i2 + (1 : Int32)) hf
    · refine Runs.icN d26_11 (flt hc2).1 <| ?_
      refine Runs.iloadN d26_14 rfl <| Runs.bipush d26_15 cb_32 <| ?_
      refine ite_el hf (fun hc4 hf => ?_) (fun hc4 hf => ?_)
      · refine Runs.icY (pc' := 33) d26_17 (tlt hc4).2.2.1 (by decide) <| ?_
        refine Runs.aloadN d26_33 rfl <| Runs.getA d26_34 fA_3 w17 (by decide) <| Runs.iloadN d26_37 rfl <| Runs.lloadN d26_38 rfl <| ?_
        refine chk_el hf fun hi5 hf => ?_
        exact Runs.lastoreA d26_39 fA_3 (by decide) hi5 <| Runs.iinc (P' := [vr a, vi i1, vi (i2 + (1 : Int32)), vl (0 : Int64), v2]) d26_40 ci_1 rfl (by decide) rfl <| Runs.goto (pc' := 2) d26_43 (by decide) <| Runs.forget [true, true, true, false, false] rfl <| hk2 (sJ ob 3 i2 (0 : Int64)) i1 (i2 + (1 : Int32)) hf
      · refine Runs.icN d26_17 (flt hc4).2.2.1 <| ?_
        refine Runs.aloadN d26_20 rfl <| Runs.getA d26_21 fA_2 w15 (by decide) <| Runs.iloadN d26_24 rfl <| Runs.iconst d26_25 ci_1 <| Runs.isub d26_26 <| Runs.iconst d26_27 ci_4 <| Runs.imul d26_28 <| Runs.iloadN d26_29 rfl <| Runs.iadd d26_30 <| ?_
        refine chk_el hf fun hi6 hf => ?_
        refine Runs.laloadA d26_31 fA_2 (by decide) hi6 <| Runs.lstoreN (P' := [vr a, vi i1, vi i2, vl (gJ ob 2 (((i1 - (1 : Int32)) * (4 : Int32)) + i2)), v2]) d26_32 (by decide) rfl <| Runs.aloadN d26_33 rfl <| Runs.getA d26_34 fA_3 w17 (by decide) <| Runs.iloadN d26_37 rfl <| Runs.lloadN d26_38 rfl <| ?_
        refine chk_el hf fun hi7 hf => ?_
        exact Runs.lastoreA d26_39 fA_3 (by decide) hi7 <| Runs.iinc (P' := [vr a, vi i1, vi (i2 + (1 : Int32)), vl (gJ ob 2 (((i1 - (1 : Int32)) * (4 : Int32)) + i2)), v2]) d26_40 ci_1 rfl (by decide) rfl <| Runs.goto (pc' := 2) d26_43 (by decide) <| Runs.forget [true, true, true, false, false] rfl <| hk2 (sJ ob 3 i2 (gJ ob 2 (((i1 - (1 : Int32)) * (4 : Int32)) + i2))) i1 (i2 + (1 : Int32)) hf
  · refine Runs.icY (pc' := 46) d26_4 (flt hc1).2.1 (by decide) <| ?_
    obtain rfl := Option.some.inj hf
    exact Runs.retV d26_46 rfl ⟨by decide, by decide⟩ ⟨rfl, rfl⟩
theorem X_storeTopIntoF_l2_p {C : Ctx} {top : Nat} {a : Nat} {H : List (Nat × Nat × Rec)} {res : Rec} {NF : Nat} (n : Nat) (ob : Rec) (i1 : Int32) (i2 : Int32) (hf : X_storeTopIntoF_l2 NF n ob i1 i2 = some res) : Runs C B26 0 0 2 [vr a, vi i1, vi i2, vn, vn] [] (top, (a, 6, ob) :: H) (Ans none (top, (a, 6, res) :: H)) := by
  induction n generalizing ob i1 i2 with
  | zero => cases (show (none : Option (Rec)) = some res from hf)
  | succ n ih => exact X_storeTopIntoF_w2_p (X_storeTopIntoF_l2 NF n) (fun ob i1 i2 h => ih _ _ _ h) ob i1 i2 hf
def X_storeTopIntoF (NF : Nat) (ob : Rec) (i1 : Int32) : Option (Rec) :=
  X_storeTopIntoF_l2 NF NF ob i1 (0 : Int32)
set_option maxRecDepth 65536 in
set_option maxHeartbeats 4000000 in
theorem X_storeTopIntoF_p {C : Ctx} {top : Nat} {a : Nat} {H : List (Nat × Nat × Rec)} {res : Rec} {NF : Nat} (ob : Rec) (i1 : Int32) (hf : X_storeTopIntoF NF ob i1 = some res) : Runs C B26 0 0 0 [vr a, vi i1, vn, vn, vn] [] (top, (a, 6, ob) :: H) (Ans none (top, (a, 6, res) :: H)) := by
  delta X_storeTopIntoF at hf
  exact Runs.iconst d26_0 ci_0 <| Runs.istoreN (P' := [vr a, vi i1, vi (0 : Int32), vn, vn]) d26_1 (by decide) rfl <| X_storeTopIntoF_l2_p NF ob i1 (0 : Int32) hf
theorem X_storeTopIntoF_pay {C : Ctx} {top : Nat} {a : Nat} {H : List (Nat × Nat × Rec)} {res : Rec} {NF : Nat} {ob : Rec} {i1 : Int32} (hf : X_storeTopIntoF NF ob i1 = some res) : Pays C B26 [.ref a, .int i1] (top, (a, 6, ob) :: H) (Ans none (top, (a, 6, res) :: H)) :=
  Pays.of pnK (Nat.le_of_ble_eq_true rfl) (P := [vr a, vi i1, vn, vn, vn]) 3 rfl (X_storeTopIntoF_p ob i1 hf)
def X_ensureTableF_w26 (NF : Nat) (k26 : Rec → Int32 → Int32 → Int32 → Option (Rec)) (ob : Rec) (i1 : Int32) (i2 : Int32) (i3 : Int32) : Option (Rec) :=
  if i3 < i1 then
    chk (32 : Int32) i3 <|
    bind2 (X_step NF ob (gA ob 0 i3) i2) fun r3 q4 =>
    k26 q4 i1 r3 (i3 + (1 : Int32))
  else
    (X_storeTopIntoF NF ob i2).bind fun q6 =>
    some (sI q6 7 (1 : Int32))
def X_ensureTableF_l26 (NF : Nat) : Nat → Rec → Int32 → Int32 → Int32 → Option (Rec)
  | 0, _, _, _, _ => none
  | n + 1, ob, i1, i2, i3 => X_ensureTableF_w26 NF (X_ensureTableF_l26 NF n) ob i1 i2 i3
set_option maxRecDepth 65536 in
set_option maxHeartbeats 4000000 in
theorem X_ensureTableF_w26_p {C : Ctx} {top : Nat} {a : Nat} {H : List (Nat × Nat × Rec)} {res : Rec} {NF : Nat} (k26 : Rec → Int32 → Int32 → Int32 → Option (Rec)) (hk26 : ∀ (ob : Rec) (i1 : Int32) (i2 : Int32) (i3 : Int32), k26 ob i1 i2 i3 = some res → Runs C B21 0 0 26 [vr a, vi i1, vi i2, vi i3] [] (top, (a, 6, ob) :: H) (Ans none (top, (a, 6, res) :: H))) (ob : Rec) (i1 : Int32) (i2 : Int32) (i3 : Int32) (hf : X_ensureTableF_w26 NF k26 ob i1 i2 i3 = some res) : Runs C B21 0 0 26 [vr a, vi i1, vi i2, vi i3] [] (top, (a, 6, ob) :: H) (Ans none (top, (a, 6, res) :: H)) := by
  delta X_ensureTableF_w26 at hf
  refine Runs.iloadN d21_26 rfl <| Runs.iloadN d21_27 rfl <| ?_
  refine ite_el hf (fun hc1 hf => ?_) (fun hc1 hf => ?_)
  · refine Runs.icN d21_28 (tlt hc1).2.1 <| ?_
    refine Runs.aloadN d21_31 rfl <| Runs.aloadN d21_32 rfl <| Runs.getA d21_33 fA_0 w10 (by decide) <| Runs.iloadN d21_36 rfl <| ?_
    refine chk_el hf fun hi2 hf => ?_
    refine Runs.ialoadA d21_37 fA_0 (by decide) hi2 <| Runs.iloadN d21_38 rfl <| ?_
    refine bind2_el hf fun r3 q4 hg5 hf => ?_
    exact Runs.callP (N := B22) (W := 0) (as := [.int (gA ob 0 i3), .int i2]) (S' := []) d21_39 w133 w134 w135 rfl cw22 ar22 rk21_22_0 (by decide) rfl rfl (X_step_pay hg5) <| ans1 <| Runs.istoreN (P' := [vr a, vi i1, vi r3, vi i3]) d21_42 (by decide) rfl <| Runs.iinc (P' := [vr a, vi i1, vi r3, vi (i3 + (1 : Int32))]) d21_43 ci_1 rfl (by decide) rfl <| Runs.goto (pc' := 26) d21_46 (by decide) <| hk26 q4 i1 r3 (i3 + (1 : Int32)) hf
  · refine Runs.icY (pc' := 49) d21_28 (flt hc1).2.1 (by decide) <| ?_
    refine Runs.aloadN d21_49 rfl <| Runs.iloadN d21_50 rfl <| ?_
    refine bind_el hf fun q6 hg7 hf => ?_
    obtain rfl := Option.some.inj hf
    exact Runs.callP (N := B26) (W := 0) (as := [.int i2]) (S' := []) d21_51 w150 w151 w152 rfl cw26 ar26 rk21_26_0 (by decide) rfl rfl (X_storeTopIntoF_pay hg7) <| ans0 <| Runs.aloadN d21_54 rfl <| Runs.iconst d21_55 ci_1 <| Runs.putZ (y := (1 : Int32)) d21_56 w33 fS_7 (Or.inl w34) rfl <| Runs.retV d21_59 rfl ⟨by decide, by decide⟩ ⟨rfl, rfl⟩
theorem X_ensureTableF_l26_p {C : Ctx} {top : Nat} {a : Nat} {H : List (Nat × Nat × Rec)} {res : Rec} {NF : Nat} (n : Nat) (ob : Rec) (i1 : Int32) (i2 : Int32) (i3 : Int32) (hf : X_ensureTableF_l26 NF n ob i1 i2 i3 = some res) : Runs C B21 0 0 26 [vr a, vi i1, vi i2, vi i3] [] (top, (a, 6, ob) :: H) (Ans none (top, (a, 6, res) :: H)) := by
  induction n generalizing ob i1 i2 i3 with
  | zero => cases (show (none : Option (Rec)) = some res from hf)
  | succ n ih => exact X_ensureTableF_w26_p (X_ensureTableF_l26 NF n) (fun ob i1 i2 i3 h => ih _ _ _ _ h) ob i1 i2 i3 hf
def X_ensureTableF (NF : Nat) (ob : Rec) : Option (Rec) :=
  if (gI ob 7) = (0 : Int32) then
    if (32 : Int32) < (gI ob 1) then
      X_ensureTableF_l26 NF NF ob (32 : Int32) (0 : Int32) (0 : Int32)
    else
      X_ensureTableF_l26 NF NF ob (gI ob 1) (0 : Int32) (0 : Int32)
  else
    some ob
set_option maxRecDepth 65536 in
set_option maxHeartbeats 4000000 in
theorem X_ensureTableF_p {C : Ctx} {top : Nat} {a : Nat} {H : List (Nat × Nat × Rec)} {res : Rec} {NF : Nat} (ob : Rec) (hf : X_ensureTableF NF ob = some res) : Runs C B21 0 0 0 [vr a, vn, vn, vn] [] (top, (a, 6, ob) :: H) (Ans none (top, (a, 6, res) :: H)) := by
  delta X_ensureTableF at hf
  refine Runs.aloadN d21_0 rfl <| Runs.getI d21_1 w33 fS_7 <| ?_
  refine ite_el hf (fun hc8 hf => ?_) (fun hc8 hf => ?_)
  · refine Runs.ifY (pc' := 8) d21_4 (teq hc8).1 (by decide) <| ?_
    refine Runs.aloadN d21_8 rfl <| Runs.getI d21_9 w25 fS_1 <| Runs.istoreN (P' := [vr a, vi (gI ob 1), vn, vn]) d21_12 (by decide) rfl <| Runs.iloadN d21_13 rfl <| Runs.bipush d21_14 cb_32 <| ?_
    refine ite_el hf (fun hc9 hf => ?_) (fun hc9 hf => ?_)
    · refine Runs.icN d21_16 (tlt hc9).2.2.2 <| ?_
      exact Runs.bipush d21_19 cb_32 <| Runs.istoreN (P' := [vr a, vi (32 : Int32), vn, vn]) d21_21 (by decide) rfl <| Runs.iconst d21_22 ci_0 <| Runs.istoreN (P' := [vr a, vi (32 : Int32), vi (0 : Int32), vn]) d21_23 (by decide) rfl <| Runs.iconst d21_24 ci_0 <| Runs.istoreN (P' := [vr a, vi (32 : Int32), vi (0 : Int32), vi (0 : Int32)]) d21_25 (by decide) rfl <| X_ensureTableF_l26_p NF ob (32 : Int32) (0 : Int32) (0 : Int32) hf
    · refine Runs.icY (pc' := 22) d21_16 (flt hc9).2.2.2 (by decide) <| ?_
      exact Runs.iconst d21_22 ci_0 <| Runs.istoreN (P' := [vr a, vi (gI ob 1), vi (0 : Int32), vn]) d21_23 (by decide) rfl <| Runs.iconst d21_24 ci_0 <| Runs.istoreN (P' := [vr a, vi (gI ob 1), vi (0 : Int32), vi (0 : Int32)]) d21_25 (by decide) rfl <| X_ensureTableF_l26_p NF ob (gI ob 1) (0 : Int32) (0 : Int32) hf
  · refine Runs.ifN d21_4 (feq hc8).1 <| ?_
    obtain rfl := Option.some.inj hf
    exact Runs.retV d21_7 rfl ⟨by decide, by decide⟩ ⟨rfl, rfl⟩
theorem X_ensureTableF_pay {C : Ctx} {top : Nat} {a : Nat} {H : List (Nat × Nat × Rec)} {res : Rec} {NF : Nat} {ob : Rec} (hf : X_ensureTableF NF ob = some res) : Pays C B21 [.ref a] (top, (a, 6, ob) :: H) (Ans none (top, (a, 6, res) :: H)) :=
  Pays.of pnK (Nat.le_of_ble_eq_true rfl) (P := [vr a, vn, vn, vn]) 3 rfl (X_ensureTableF_p ob hf)
def X_copyTableFToS_w2 (NF : Nat) (k2 : Rec → Int32 → Option (Rec)) (ob : Rec) (i1 : Int32) : Option (Rec) :=
  if i1 < (4 : Int32) then
    chk (4 : Int32) i1 <|
    chk (4 : Int32) i1 <|
    k2 (sJ ob 4 i1 (gJ ob 3 i1)) (i1 + (1 : Int32))
  else
    some ob
def X_copyTableFToS_l2 (NF : Nat) : Nat → Rec → Int32 → Option (Rec)
  | 0, _, _ => none
  | n + 1, ob, i1 => X_copyTableFToS_w2 NF (X_copyTableFToS_l2 NF n) ob i1
set_option maxRecDepth 65536 in
set_option maxHeartbeats 4000000 in
theorem X_copyTableFToS_w2_p {C : Ctx} {top : Nat} {a : Nat} {H : List (Nat × Nat × Rec)} {res : Rec} {NF : Nat} (k2 : Rec → Int32 → Option (Rec)) (hk2 : ∀ (ob : Rec) (i1 : Int32), k2 ob i1 = some res → Runs C B27 0 0 2 [vr a, vi i1] [] (top, (a, 6, ob) :: H) (Ans none (top, (a, 6, res) :: H))) (ob : Rec) (i1 : Int32) (hf : X_copyTableFToS_w2 NF k2 ob i1 = some res) : Runs C B27 0 0 2 [vr a, vi i1] [] (top, (a, 6, ob) :: H) (Ans none (top, (a, 6, res) :: H)) := by
  delta X_copyTableFToS_w2 at hf
  refine Runs.iloadN d27_2 rfl <| Runs.iconst d27_3 ci_4 <| ?_
  refine ite_el hf (fun hc1 hf => ?_) (fun hc1 hf => ?_)
  · refine Runs.icN d27_4 (tlt hc1).2.1 <| ?_
    refine Runs.aloadN d27_7 rfl <| Runs.getA d27_8 fA_4 w19 (by decide) <| Runs.iloadN d27_11 rfl <| Runs.aloadN d27_12 rfl <| Runs.getA d27_13 fA_3 w17 (by decide) <| Runs.iloadN d27_16 rfl <| ?_
    refine chk_el hf fun hi2 hf => ?_
    refine Runs.laloadA d27_17 fA_3 (by decide) hi2 <| ?_
    refine chk_el hf fun hi3 hf => ?_
    exact Runs.lastoreA d27_18 fA_4 (by decide) hi3 <| Runs.iinc (P' := [vr a, vi (i1 + (1 : Int32))]) d27_19 ci_1 rfl (by decide) rfl <| Runs.goto (pc' := 2) d27_22 (by decide) <| hk2 (sJ ob 4 i1 (gJ ob 3 i1)) (i1 + (1 : Int32)) hf
  · refine Runs.icY (pc' := 25) d27_4 (flt hc1).2.1 (by decide) <| ?_
    obtain rfl := Option.some.inj hf
    exact Runs.retV d27_25 rfl ⟨by decide, by decide⟩ ⟨rfl, rfl⟩
theorem X_copyTableFToS_l2_p {C : Ctx} {top : Nat} {a : Nat} {H : List (Nat × Nat × Rec)} {res : Rec} {NF : Nat} (n : Nat) (ob : Rec) (i1 : Int32) (hf : X_copyTableFToS_l2 NF n ob i1 = some res) : Runs C B27 0 0 2 [vr a, vi i1] [] (top, (a, 6, ob) :: H) (Ans none (top, (a, 6, res) :: H)) := by
  induction n generalizing ob i1 with
  | zero => cases (show (none : Option (Rec)) = some res from hf)
  | succ n ih => exact X_copyTableFToS_w2_p (X_copyTableFToS_l2 NF n) (fun ob i1 h => ih _ _ h) ob i1 hf
def X_copyTableFToS (NF : Nat) (ob : Rec) : Option (Rec) :=
  X_copyTableFToS_l2 NF NF ob (0 : Int32)
set_option maxRecDepth 65536 in
set_option maxHeartbeats 4000000 in
theorem X_copyTableFToS_p {C : Ctx} {top : Nat} {a : Nat} {H : List (Nat × Nat × Rec)} {res : Rec} {NF : Nat} (ob : Rec) (hf : X_copyTableFToS NF ob = some res) : Runs C B27 0 0 0 [vr a, vn] [] (top, (a, 6, ob) :: H) (Ans none (top, (a, 6, res) :: H)) := by
  delta X_copyTableFToS at hf
  exact Runs.iconst d27_0 ci_0 <| Runs.istoreN (P' := [vr a, vi (0 : Int32)]) d27_1 (by decide) rfl <| X_copyTableFToS_l2_p NF ob (0 : Int32) hf
theorem X_copyTableFToS_pay {C : Ctx} {top : Nat} {a : Nat} {H : List (Nat × Nat × Rec)} {res : Rec} {NF : Nat} {ob : Rec} (hf : X_copyTableFToS NF ob = some res) : Pays C B27 [.ref a] (top, (a, 6, ob) :: H) (Ans none (top, (a, 6, res) :: H)) :=
  Pays.of pnK (Nat.le_of_ble_eq_true rfl) (P := [vr a, vn]) 1 rfl (X_copyTableFToS_p ob hf)
def X_save (NF : Nat) (ob : Rec) : Option (Int32 × Rec) :=
  (X_completeF ob).bind fun r1 =>
  if r1 = (0 : Int32) then
    some ((-5 : Int32), ob)
  else
    (X_copyTokensToSaved NF ob).bind fun q4 =>
    (X_ensureTableF NF q4).bind fun q6 =>
    (X_copyTableFToS NF q6).bind fun q8 =>
    (X_resetResult (sI q8 4 (1 : Int32))).bind fun q10 =>
    some ((0 : Int32), q10)
set_option maxRecDepth 65536 in
set_option maxHeartbeats 4000000 in
theorem X_save_p {C : Ctx} {top : Nat} {a : Nat} {H : List (Nat × Nat × Rec)} {res : Int32 × Rec} {NF : Nat} (ob : Rec) (hf : X_save NF ob = some res) : Runs C B19 0 0 0 [vr a] [] (top, (a, 6, ob) :: H) (Ans (some (.int res.1)) (top, (a, 6, res.2) :: H)) := by
  delta X_save at hf
  refine Runs.aloadN d19_0 rfl <| ?_
  refine bind_el hf fun r1 hg2 hf => ?_
  refine Runs.callP (N := B9) (W := 0) (as := []) (S' := []) d19_1 w72 w73 w74 rfl cw9 ar9 rk19_9_0 (by decide) rfl rfl (X_completeF_pay hg2) <| ans1 <| ?_
  refine ite_el hf (fun hc3 hf => ?_) (fun hc3 hf => ?_)
  · refine Runs.ifN d19_4 (teq hc3).2 <| ?_
    obtain rfl := Option.some.inj hf
    exact Runs.bipush d19_7 cb_m5 <| Runs.retI d19_9 rfl ⟨by decide, by decide⟩ ⟨rfl, rfl⟩
  · refine Runs.ifY (pc' := 10) d19_4 (feq hc3).2 (by decide) <| ?_
    refine Runs.aloadN d19_10 rfl <| ?_
    refine bind_el hf fun q4 hg5 hf => ?_
    refine Runs.callP (N := B20) (W := 0) (as := []) (S' := []) d19_11 w125 w126 w127 rfl cw20 ar20 rk19_20_0 (by decide) rfl rfl (X_copyTokensToSaved_pay hg5) <| ans0 <| Runs.aloadN d19_14 rfl <| ?_
    refine bind_el hf fun q6 hg7 hf => ?_
    refine Runs.callP (N := B21) (W := 0) (as := []) (S' := []) d19_15 w129 w130 w131 rfl cw21 ar21 rk19_21_0 (by decide) rfl rfl (X_ensureTableF_pay hg7) <| ans0 <| Runs.aloadN d19_18 rfl <| ?_
    refine bind_el hf fun q8 hg9 hf => ?_
    refine Runs.callP (N := B27) (W := 0) (as := []) (S' := []) d19_19 w154 w155 w156 rfl cw27 ar27 rk19_27_0 (by decide) rfl rfl (X_copyTableFToS_pay hg9) <| ans0 <| Runs.aloadN d19_22 rfl <| Runs.iconst d19_23 ci_1 <| Runs.putZ (y := (1 : Int32)) d19_24 w31 fS_4 (Or.inl w32) rfl <| Runs.aloadN d19_27 rfl <| ?_
    refine bind_el hf fun q10 hg11 hf => ?_
    obtain rfl := Option.some.inj hf
    exact Runs.callP (N := B2) (W := 0) (as := []) (S' := []) d19_28 w35 w36 w37 rfl cw2 ar2 rk19_2_0 (by decide) rfl rfl (X_resetResult_pay hg11) <| ans0 <| Runs.iconst d19_31 ci_0 <| Runs.retI d19_32 rfl ⟨by decide, by decide⟩ ⟨rfl, rfl⟩
theorem X_save_pay {C : Ctx} {top : Nat} {a : Nat} {H : List (Nat × Nat × Rec)} {res : Int32 × Rec} {NF : Nat} {ob : Rec} (hf : X_save NF ob = some res) : Pays C B19 [.ref a] (top, (a, 6, ob) :: H) (Ans (some (.int res.1)) (top, (a, 6, res.2) :: H)) :=
  Pays.of pnK (Nat.le_of_ble_eq_true rfl) (P := [vr a]) 0 rfl (X_save_p ob hf)
def X_loadWorkNegatedF_w2 (NF : Nat) (k2 : Rec → Int32 → Option (Rec)) (ob : Rec) (i1 : Int32) : Option (Rec) :=
  if i1 < (4 : Int32) then
    chk (4 : Int32) i1 <|
    chk (4 : Int32) i1 <|
    k2 (sJ ob 5 i1 ((gJ ob 3 i1) ^^^ (-1 : Int64))) (i1 + (1 : Int32))
  else
    some ob
def X_loadWorkNegatedF_l2 (NF : Nat) : Nat → Rec → Int32 → Option (Rec)
  | 0, _, _ => none
  | n + 1, ob, i1 => X_loadWorkNegatedF_w2 NF (X_loadWorkNegatedF_l2 NF n) ob i1
set_option maxRecDepth 65536 in
set_option maxHeartbeats 4000000 in
theorem X_loadWorkNegatedF_w2_p {C : Ctx} {top : Nat} {a : Nat} {H : List (Nat × Nat × Rec)} {res : Rec} {NF : Nat} (k2 : Rec → Int32 → Option (Rec)) (hk2 : ∀ (ob : Rec) (i1 : Int32), k2 ob i1 = some res → Runs C B30 0 0 2 [vr a, vi i1] [] (top, (a, 6, ob) :: H) (Ans none (top, (a, 6, res) :: H))) (ob : Rec) (i1 : Int32) (hf : X_loadWorkNegatedF_w2 NF k2 ob i1 = some res) : Runs C B30 0 0 2 [vr a, vi i1] [] (top, (a, 6, ob) :: H) (Ans none (top, (a, 6, res) :: H)) := by
  delta X_loadWorkNegatedF_w2 at hf
  refine Runs.iloadN d30_2 rfl <| Runs.iconst d30_3 ci_4 <| ?_
  refine ite_el hf (fun hc1 hf => ?_) (fun hc1 hf => ?_)
  · refine Runs.icN d30_4 (tlt hc1).2.1 <| ?_
    refine Runs.aloadN d30_7 rfl <| Runs.getA d30_8 fA_5 w21 (by decide) <| Runs.iloadN d30_11 rfl <| Runs.aloadN d30_12 rfl <| Runs.getA d30_13 fA_3 w17 (by decide) <| Runs.iloadN d30_16 rfl <| ?_
    refine chk_el hf fun hi2 hf => ?_
    refine Runs.laloadA d30_17 fA_3 (by decide) hi2 <| Runs.ldc2 d30_18 w174 <| Runs.lxor d30_21 <| ?_
    refine chk_el hf fun hi3 hf => ?_
    exact Runs.lastoreA d30_22 fA_5 (by decide) hi3 <| Runs.iinc (P' := [vr a, vi (i1 + (1 : Int32))]) d30_23 ci_1 rfl (by decide) rfl <| Runs.goto (pc' := 2) d30_26 (by decide) <| hk2 (sJ ob 5 i1 ((gJ ob 3 i1) ^^^ (-1 : Int64))) (i1 + (1 : Int32)) hf
  · refine Runs.icY (pc' := 29) d30_4 (flt hc1).2.1 (by decide) <| ?_
    obtain rfl := Option.some.inj hf
    exact Runs.retV d30_29 rfl ⟨by decide, by decide⟩ ⟨rfl, rfl⟩
theorem X_loadWorkNegatedF_l2_p {C : Ctx} {top : Nat} {a : Nat} {H : List (Nat × Nat × Rec)} {res : Rec} {NF : Nat} (n : Nat) (ob : Rec) (i1 : Int32) (hf : X_loadWorkNegatedF_l2 NF n ob i1 = some res) : Runs C B30 0 0 2 [vr a, vi i1] [] (top, (a, 6, ob) :: H) (Ans none (top, (a, 6, res) :: H)) := by
  induction n generalizing ob i1 with
  | zero => cases (show (none : Option (Rec)) = some res from hf)
  | succ n ih => exact X_loadWorkNegatedF_w2_p (X_loadWorkNegatedF_l2 NF n) (fun ob i1 h => ih _ _ h) ob i1 hf
def X_loadWorkNegatedF (NF : Nat) (ob : Rec) : Option (Rec) :=
  X_loadWorkNegatedF_l2 NF NF ob (0 : Int32)
set_option maxRecDepth 65536 in
set_option maxHeartbeats 4000000 in
theorem X_loadWorkNegatedF_p {C : Ctx} {top : Nat} {a : Nat} {H : List (Nat × Nat × Rec)} {res : Rec} {NF : Nat} (ob : Rec) (hf : X_loadWorkNegatedF NF ob = some res) : Runs C B30 0 0 0 [vr a, vn] [] (top, (a, 6, ob) :: H) (Ans none (top, (a, 6, res) :: H)) := by
  delta X_loadWorkNegatedF at hf
  exact Runs.iconst d30_0 ci_0 <| Runs.istoreN (P' := [vr a, vi (0 : Int32)]) d30_1 (by decide) rfl <| X_loadWorkNegatedF_l2_p NF ob (0 : Int32) hf
theorem X_loadWorkNegatedF_pay {C : Ctx} {top : Nat} {a : Nat} {H : List (Nat × Nat × Rec)} {res : Rec} {NF : Nat} {ob : Rec} (hf : X_loadWorkNegatedF NF ob = some res) : Pays C B30 [.ref a] (top, (a, 6, ob) :: H) (Ans none (top, (a, 6, res) :: H)) :=
  Pays.of pnK (Nat.le_of_ble_eq_true rfl) (P := [vr a, vn]) 1 rfl (X_loadWorkNegatedF_p ob hf)
def X_lowestBit_b49 (NF : Nat) (ob : Rec) (k23 : Int64 → Int32 → Int32 → Int32 → Option (Int32)) (l3 : Int64) (i5 : Int32) (i6 : Int32) (i7 : Int32) (t0 : Int64) : Option (Int32) :=
  if (l3 &&& t0) = (0 : Int64) then
    k23 ((l3.toUInt64 >>> (i6 &&& 0x3f).toInt64.toUInt64).toInt64) (i5 + i6) (i6 >>> ((1 : Int32) &&& 31)) (i7 + (1 : Int32))
  else
    k23 l3 i5 (i6 >>> ((1 : Int32) &&& 31)) (i7 + (1 : Int32))
set_option maxRecDepth 65536 in
set_option maxHeartbeats 4000000 in
theorem X_lowestBit_b49_p {C : Ctx} {top : Nat} {a : Nat} {H : List (Nat × Nat × Rec)} {ob : Rec} {res : Int32} {NF : Nat} (k23 : Int64 → Int32 → Int32 → Int32 → Option (Int32)) (hk23 : ∀ (l3 : Int64) (i5 : Int32) (i6 : Int32) (i7 : Int32), k23 l3 i5 i6 i7 = some res → Runs C B32 0 0 23 [vn, vn, vn, vl l3, v2, vi i5, vi i6, vi i7, vn, vn] [] (top, (a, 6, ob) :: H) (Ans (some (.int res)) (top, (a, 6, ob) :: H))) (l3 : Int64) (i5 : Int32) (i6 : Int32) (i7 : Int32) (t0 : Int64) (hf : X_lowestBit_b49 NF ob k23 l3 i5 i6 i7 t0 = some res) : Runs C B32 0 0 49 [vn, vn, vn, vl l3, v2, vi i5, vi i6, vi i7, vn, vn] [.long t0] (top, (a, 6, ob) :: H) (Ans (some (.int res)) (top, (a, 6, ob) :: H)) := by
  delta X_lowestBit_b49 at hf
  refine Runs.lstore (P' := [vn, vn, vn, vl l3, v2, vi i5, vi i6, vi i7, vl t0, v2]) d32_49 (by decide) rfl <| Runs.lloadN d32_51 rfl <| Runs.lload d32_52 rfl <| Runs.land d32_54 <| Runs.lconst d32_55 cl_0 <| Runs.lcmp d32_56 <| ?_
  refine ite_el hf (fun hc3 hf => ?_) (fun hc3 hf => ?_)
  · refine Runs.ifN d32_57 (teq ((lw_eq _ _).mpr hc3)).2 <| ?_
    refine Runs.iload d32_60 rfl <| Runs.iload d32_62 rfl <| Runs.iadd d32_64 <| Runs.istore (P' := [vn, vn, vn, vl l3, v2, vi (i5 + i6), vi i6, vi i7, vl t0, v2]) d32_65 (by decide) rfl <| Runs.lloadN d32_67 rfl <| Runs.iload d32_68 rfl <| Runs.lushr d32_70 <| Runs.lstoreN (P' := [vn, vn, vn, vl ((l3.toUInt64 >>> (i6 &&& 0x3f).toInt64.toUInt64).toInt64), v2, vi (i5 + i6), vi i6, vi i7, vl t0, v2]) d32_71 (by decide) rfl <| Runs.iload d32_72 rfl <| Runs.iconst d32_74 ci_1 <| Runs.ishr d32_75 <| Runs.istore (P' := [vn, vn, vn, vl ((l3.toUInt64 >>> (i6 &&& 0x3f).toInt64.toUInt64).toInt64), v2, vi (i5 + i6), vi (i6 >>> ((1 : Int32) &&& 31)), vi i7, vl t0, v2]) d32_76 (by decide) rfl <| ?_
    exact Runs.iinc (P' := [vn, vn, vn, vl ((l3.toUInt64 >>> (i6 &&& 0x3f).toInt64.toUInt64).toInt64), v2, vi (i5 + i6), vi (i6 >>> ((1 : Int32) &&& 31)), vi (i7 + (1 : Int32)), vl t0, v2]) d32_78 ci_1 rfl (by decide) rfl <| Runs.goto (pc' := 23) d32_81 (by decide) <| Runs.forget [false, false, false, true, true, true, true, true, false, false] rfl <| hk23 ((l3.toUInt64 >>> (i6 &&& 0x3f).toInt64.toUInt64).toInt64) (i5 + i6) (i6 >>> ((1 : Int32) &&& 31)) (i7 + (1 : Int32)) hf
  · refine Runs.ifY (pc' := 72) d32_57 (feq (fun u => hc3 ((lw_eq _ _).mp u))).2 (by decide) <| ?_
    exact Runs.iload d32_72 rfl <| Runs.iconst d32_74 ci_1 <| Runs.ishr d32_75 <| Runs.istore (P' := [vn, vn, vn, vl l3, v2, vi i5, vi (i6 >>> ((1 : Int32) &&& 31)), vi i7, vl t0, v2]) d32_76 (by decide) rfl <| Runs.iinc (P' := [vn, vn, vn, vl l3, v2, vi i5, vi (i6 >>> ((1 : Int32) &&& 31)), vi (i7 + (1 : Int32)), vl t0, v2]) d32_78 ci_1 rfl (by decide) rfl <| Runs.goto (pc' := 23) d32_81 (by decide) <| Runs.forget [false, false, false, true, true, true, true, true, false, false] rfl <| hk23 l3 i5 (i6 >>> ((1 : Int32) &&& 31)) (i7 + (1 : Int32)) hf
def X_lowestBit_w23 (NF : Nat) (ob : Rec) (k23 : Int64 → Int32 → Int32 → Int32 → Option (Int32)) (l3 : Int64) (i5 : Int32) (i6 : Int32) (i7 : Int32) : Option (Int32) :=
  if i7 < (6 : Int32) then
    if i6 < (64 : Int32) then
      X_lowestBit_b49 NF ob k23 l3 i5 i6 i7 (((1 : Int64) <<< (i6 &&& 0x3f).toInt64) - (1 : Int64))
    else
      X_lowestBit_b49 NF ob k23 l3 i5 i6 i7 (-1 : Int64)
  else
    some i5
def X_lowestBit_l23 (NF : Nat) (ob : Rec) : Nat → Int64 → Int32 → Int32 → Int32 → Option (Int32)
  | 0, _, _, _, _ => none
  | n + 1, l3, i5, i6, i7 => X_lowestBit_w23 NF ob (X_lowestBit_l23 NF ob n) l3 i5 i6 i7
set_option maxRecDepth 65536 in
set_option maxHeartbeats 4000000 in
theorem X_lowestBit_w23_p {C : Ctx} {top : Nat} {a : Nat} {H : List (Nat × Nat × Rec)} {ob : Rec} {res : Int32} {NF : Nat} (k23 : Int64 → Int32 → Int32 → Int32 → Option (Int32)) (hk23 : ∀ (l3 : Int64) (i5 : Int32) (i6 : Int32) (i7 : Int32), k23 l3 i5 i6 i7 = some res → Runs C B32 0 0 23 [vn, vn, vn, vl l3, v2, vi i5, vi i6, vi i7, vn, vn] [] (top, (a, 6, ob) :: H) (Ans (some (.int res)) (top, (a, 6, ob) :: H))) (l3 : Int64) (i5 : Int32) (i6 : Int32) (i7 : Int32) (hf : X_lowestBit_w23 NF ob k23 l3 i5 i6 i7 = some res) : Runs C B32 0 0 23 [vn, vn, vn, vl l3, v2, vi i5, vi i6, vi i7, vn, vn] [] (top, (a, 6, ob) :: H) (Ans (some (.int res)) (top, (a, 6, ob) :: H)) := by
  delta X_lowestBit_w23 at hf
  refine Runs.iload d32_23 rfl <| Runs.bipush d32_25 cb_6 <| ?_
  refine ite_el hf (fun hc1 hf => ?_) (fun hc1 hf => ?_)
  · refine Runs.icN d32_27 (tlt hc1).2.1 <| ?_
    refine Runs.iload d32_30 rfl <| Runs.bipush d32_32 cb_64 <| ?_
    refine ite_el hf (fun hc2 hf => ?_) (fun hc2 hf => ?_)
    · refine Runs.icY (pc' := 43) d32_34 (tlt hc2).1 (by decide) <| ?_
      exact Runs.lconst d32_43 cl_1 <| Runs.iload d32_44 rfl <| Runs.lshl d32_46 <| Runs.lconst d32_47 cl_1 <| Runs.lsub d32_48 <| X_lowestBit_b49_p k23 hk23 l3 i5 i6 i7 (((1 : Int64) <<< (i6 &&& 0x3f).toInt64) - (1 : Int64)) hf
    · refine Runs.icN d32_34 (flt hc2).1 <| ?_
      exact Runs.ldc2 d32_37 w174 <| Runs.goto (pc' := 49) d32_40 (by decide) <| X_lowestBit_b49_p k23 hk23 l3 i5 i6 i7 (-1 : Int64) hf
  · refine Runs.icY (pc' := 84) d32_27 (flt hc1).2.1 (by decide) <| ?_
    obtain rfl := Option.some.inj hf
    exact Runs.iload d32_84 rfl <| Runs.retI d32_86 rfl ⟨by decide, by decide⟩ ⟨rfl, rfl⟩
theorem X_lowestBit_l23_p {C : Ctx} {top : Nat} {a : Nat} {H : List (Nat × Nat × Rec)} {ob : Rec} {res : Int32} {NF : Nat} (n : Nat) (l3 : Int64) (i5 : Int32) (i6 : Int32) (i7 : Int32) (hf : X_lowestBit_l23 NF ob n l3 i5 i6 i7 = some res) : Runs C B32 0 0 23 [vn, vn, vn, vl l3, v2, vi i5, vi i6, vi i7, vn, vn] [] (top, (a, 6, ob) :: H) (Ans (some (.int res)) (top, (a, 6, ob) :: H)) := by
  induction n generalizing l3 i5 i6 i7 with
  | zero => cases (show (none : Option (Int32)) = some res from hf)
  | succ n ih => exact X_lowestBit_w23_p (X_lowestBit_l23 NF ob n) (fun l3 i5 i6 i7 h => ih _ _ _ _ h) l3 i5 i6 i7 hf
def X_lowestBit (NF : Nat) (ob : Rec) (l1 : Int64) : Option (Int32) :=
  if l1 = (0 : Int64) then
    some (-1 : Int32)
  else
    X_lowestBit_l23 NF ob NF (l1 &&& (-l1)) (0 : Int32) (32 : Int32) (0 : Int32)
set_option maxRecDepth 65536 in
set_option maxHeartbeats 4000000 in
theorem X_lowestBit_p {C : Ctx} {top : Nat} {a : Nat} {H : List (Nat × Nat × Rec)} {ob : Rec} {res : Int32} {NF : Nat} (l1 : Int64) (hf : X_lowestBit NF ob l1 = some res) : Runs C B32 0 0 0 [vr a, vl l1, v2, vn, vn, vn, vn, vn, vn, vn] [] (top, (a, 6, ob) :: H) (Ans (some (.int res)) (top, (a, 6, ob) :: H)) := by
  delta X_lowestBit at hf
  refine Runs.lloadN d32_0 rfl <| Runs.lconst d32_1 cl_0 <| Runs.lcmp d32_2 <| ?_
  refine ite_el hf (fun hc4 hf => ?_) (fun hc4 hf => ?_)
  · refine Runs.ifN d32_3 (teq ((lw_eq _ _).mpr hc4)).2 <| ?_
    obtain rfl := Option.some.inj hf
    exact Runs.iconst d32_6 ci_m1 <| Runs.retI d32_7 rfl ⟨by decide, by decide⟩ ⟨rfl, rfl⟩
  · refine Runs.ifY (pc' := 8) d32_3 (feq (fun u => hc4 ((lw_eq _ _).mp u))).2 (by decide) <| ?_
    exact Runs.lloadN d32_8 rfl <| Runs.lloadN d32_9 rfl <| Runs.lneg d32_10 <| Runs.land d32_11 <| Runs.lstoreN (P' := [vr a, vl l1, v2, vl (l1 &&& (-l1)), v2, vn, vn, vn, vn, vn]) d32_12 (by decide) rfl <| Runs.iconst d32_13 ci_0 <| Runs.istore (P' := [vr a, vl l1, v2, vl (l1 &&& (-l1)), v2, vi (0 : Int32), vn, vn, vn, vn]) d32_14 (by decide) rfl <| Runs.bipush d32_16 cb_32 <| Runs.istore (P' := [vr a, vl l1, v2, vl (l1 &&& (-l1)), v2, vi (0 : Int32), vi (32 : Int32), vn, vn, vn]) d32_18 (by decide) rfl <| Runs.iconst d32_20 ci_0 <| Runs.istore (P' := [vr a, vl l1, v2, vl (l1 &&& (-l1)), v2, vi (0 : Int32), vi (32 : Int32), vi (0 : Int32), vn, vn]) d32_21 (by decide) rfl <| Runs.forget [false, false, false, true, true, true, true, true, false, false] rfl <| X_lowestBit_l23_p NF (l1 &&& (-l1)) (0 : Int32) (32 : Int32) (0 : Int32) hf
theorem X_lowestBit_pay {C : Ctx} {top : Nat} {a : Nat} {H : List (Nat × Nat × Rec)} {ob : Rec} {res : Int32} {NF : Nat} {l1 : Int64} (hf : X_lowestBit NF ob l1 = some res) : Pays C B32 [.ref a, .long l1] (top, (a, 6, ob) :: H) (Ans (some (.int res)) (top, (a, 6, ob) :: H)) :=
  Pays.of pnK (Nat.le_of_ble_eq_true rfl) (P := [vr a, vl l1, v2, vn, vn, vn, vn, vn, vn, vn]) 7 rfl (X_lowestBit_p l1 hf)
def X_firstSetInWork_w2 (NF : Nat) (ob : Rec) (k2 : Int32 → Option (Int32)) (i1 : Int32) : Option (Int32) :=
  if i1 < (4 : Int32) then
    chk (4 : Int32) i1 <|
    if (gJ ob 5 i1) = (0 : Int64) then
      k2 (i1 + (1 : Int32))
    else
      (X_lowestBit NF ob (gJ ob 5 i1)).bind fun r4 =>
      some ((i1 * (64 : Int32)) + r4)
  else
    some (-1 : Int32)
def X_firstSetInWork_l2 (NF : Nat) (ob : Rec) : Nat → Int32 → Option (Int32)
  | 0, _ => none
  | n + 1, i1 => X_firstSetInWork_w2 NF ob (X_firstSetInWork_l2 NF ob n) i1
set_option maxRecDepth 65536 in
set_option maxHeartbeats 4000000 in
theorem X_firstSetInWork_w2_p {C : Ctx} {top : Nat} {a : Nat} {H : List (Nat × Nat × Rec)} {ob : Rec} {res : Int32} {NF : Nat} (k2 : Int32 → Option (Int32)) (hk2 : ∀ (i1 : Int32), k2 i1 = some res → Runs C B31 0 0 2 [vr a, vi i1, vn, vn] [] (top, (a, 6, ob) :: H) (Ans (some (.int res)) (top, (a, 6, ob) :: H))) (i1 : Int32) (hf : X_firstSetInWork_w2 NF ob k2 i1 = some res) : Runs C B31 0 0 2 [vr a, vi i1, vn, vn] [] (top, (a, 6, ob) :: H) (Ans (some (.int res)) (top, (a, 6, ob) :: H)) := by
  delta X_firstSetInWork_w2 at hf
  refine Runs.iloadN d31_2 rfl <| Runs.iconst d31_3 ci_4 <| ?_
  refine ite_el hf (fun hc1 hf => ?_) (fun hc1 hf => ?_)
  · refine Runs.icN d31_4 (tlt hc1).2.1 <| ?_
    refine Runs.aloadN d31_7 rfl <| Runs.getA d31_8 fA_5 w21 (by decide) <| Runs.iloadN d31_11 rfl <| ?_
    refine chk_el hf fun hi2 hf => ?_
    refine Runs.laloadA d31_12 fA_5 (by decide) hi2 <| Runs.lstoreN (P' := [vr a, vi i1, vl (gJ ob 5 i1), v2]) d31_13 (by decide) rfl <| Runs.lloadN d31_14 rfl <| Runs.lconst d31_15 cl_0 <| Runs.lcmp d31_16 <| ?_
    refine ite_el hf (fun hc3 hf => ?_) (fun hc3 hf => ?_)
    · refine Runs.ifY (pc' := 31) d31_17 (teq ((lw_eq _ _).mpr hc3)).1 (by decide) <| ?_
      exact Runs.iinc (P' := [vr a, vi (i1 + (1 : Int32)), vl (gJ ob 5 i1), v2]) d31_31 ci_1 rfl (by decide) rfl <| Runs.goto (pc' := 2) d31_34 (by decide) <| Runs.forget [true, true, false, false] rfl <| hk2 (i1 + (1 : Int32)) hf
    · refine Runs.ifN d31_17 (feq (fun u => hc3 ((lw_eq _ _).mp u))).1 <| ?_
      refine Runs.iloadN d31_20 rfl <| Runs.bipush d31_21 cb_64 <| Runs.imul d31_23 <| Runs.aloadN d31_24 rfl <| Runs.lloadN d31_25 rfl <| ?_
      refine bind_el hf fun r4 hg5 hf => ?_
      obtain rfl := Option.some.inj hf
      exact Runs.callP (N := B32) (W := 1) (as := [.long (gJ ob 5 i1)]) (S' := [.int (i1 * (64 : Int32))]) d31_26 w179 w180 w181 rfl cw32 ar32 rk31_32_1 (by decide) rfl rfl (X_lowestBit_pay hg5) <| ans1 <| Runs.iadd d31_29 <| Runs.retI d31_30 rfl ⟨by decide, by decide⟩ ⟨rfl, rfl⟩
  · refine Runs.icY (pc' := 37) d31_4 (flt hc1).2.1 (by decide) <| ?_
    obtain rfl := Option.some.inj hf
    exact Runs.iconst d31_37 ci_m1 <| Runs.retI d31_38 rfl ⟨by decide, by decide⟩ ⟨rfl, rfl⟩
theorem X_firstSetInWork_l2_p {C : Ctx} {top : Nat} {a : Nat} {H : List (Nat × Nat × Rec)} {ob : Rec} {res : Int32} {NF : Nat} (n : Nat) (i1 : Int32) (hf : X_firstSetInWork_l2 NF ob n i1 = some res) : Runs C B31 0 0 2 [vr a, vi i1, vn, vn] [] (top, (a, 6, ob) :: H) (Ans (some (.int res)) (top, (a, 6, ob) :: H)) := by
  induction n generalizing i1 with
  | zero => cases (show (none : Option (Int32)) = some res from hf)
  | succ n ih => exact X_firstSetInWork_w2_p (X_firstSetInWork_l2 NF ob n) (fun i1 h => ih _ h) i1 hf
def X_firstSetInWork (NF : Nat) (ob : Rec) : Option (Int32) :=
  X_firstSetInWork_l2 NF ob NF (0 : Int32)
set_option maxRecDepth 65536 in
set_option maxHeartbeats 4000000 in
theorem X_firstSetInWork_p {C : Ctx} {top : Nat} {a : Nat} {H : List (Nat × Nat × Rec)} {ob : Rec} {res : Int32} {NF : Nat} (hf : X_firstSetInWork NF ob = some res) : Runs C B31 0 0 0 [vr a, vn, vn, vn] [] (top, (a, 6, ob) :: H) (Ans (some (.int res)) (top, (a, 6, ob) :: H)) := by
  delta X_firstSetInWork at hf
  exact Runs.iconst d31_0 ci_0 <| Runs.istoreN (P' := [vr a, vi (0 : Int32), vn, vn]) d31_1 (by decide) rfl <| X_firstSetInWork_l2_p NF (0 : Int32) hf
theorem X_firstSetInWork_pay {C : Ctx} {top : Nat} {a : Nat} {H : List (Nat × Nat × Rec)} {ob : Rec} {res : Int32} {NF : Nat} (hf : X_firstSetInWork NF ob = some res) : Pays C B31 [.ref a] (top, (a, 6, ob) :: H) (Ans (some (.int res)) (top, (a, 6, ob) :: H)) :=
  Pays.of pnK (Nat.le_of_ble_eq_true rfl) (P := [vr a, vn, vn, vn]) 3 rfl (X_firstSetInWork_p hf)
def X_setResult (ob : Rec) (i1 : Int32) (i2 : Int32) : Option (Rec) :=
  some (sI (sI ob 5 i1) 6 i2)
set_option maxRecDepth 65536 in
set_option maxHeartbeats 4000000 in
theorem X_setResult_p {C : Ctx} {top : Nat} {a : Nat} {H : List (Nat × Nat × Rec)} {res : Rec} (ob : Rec) (i1 : Int32) (i2 : Int32) (hf : X_setResult ob i1 i2 = some res) : Runs C B33 0 0 0 [vr a, vi i1, vi i2] [] (top, (a, 6, ob) :: H) (Ans none (top, (a, 6, res) :: H)) := by
  delta X_setResult at hf
  obtain rfl := Option.some.inj hf
  exact Runs.aloadN d33_0 rfl <| Runs.iloadN d33_1 rfl <| Runs.putI d33_2 w39 fS_5 (Or.inl w40) <| Runs.aloadN d33_5 rfl <| Runs.iloadN d33_6 rfl <| Runs.putI d33_7 w41 fS_6 (Or.inl w42) <| Runs.retV d33_10 rfl ⟨by decide, by decide⟩ ⟨rfl, rfl⟩
theorem X_setResult_pay {C : Ctx} {top : Nat} {a : Nat} {H : List (Nat × Nat × Rec)} {res : Rec} {ob : Rec} {i1 : Int32} {i2 : Int32} (hf : X_setResult ob i1 i2 = some res) : Pays C B33 [.ref a, .int i1, .int i2] (top, (a, 6, ob) :: H) (Ans none (top, (a, 6, res) :: H)) :=
  Pays.of pnK (Nat.le_of_ble_eq_true rfl) (P := [vr a, vi i1, vi i2]) 0 rfl (X_setResult_p ob i1 i2 hf)
def X_prove (NF : Nat) (ob : Rec) : Option (Int32 × Rec) :=
  (X_completeF ob).bind fun r1 =>
  if r1 = (0 : Int32) then
    some ((-5 : Int32), ob)
  else
    (X_ensureTableF NF ob).bind fun q4 =>
    (X_loadWorkNegatedF NF q4).bind fun q6 =>
    (X_firstSetInWork NF q6).bind fun r8 =>
    if r8 < (0 : Int32) then
      (X_setResult q6 (1 : Int32) (-1 : Int32)).bind fun q11 =>
      some ((1 : Int32), q11)
    else
      (X_setResult q6 (2 : Int32) r8).bind fun q13 =>
      some ((2 : Int32), q13)
set_option maxRecDepth 65536 in
set_option maxHeartbeats 4000000 in
theorem X_prove_p {C : Ctx} {top : Nat} {a : Nat} {H : List (Nat × Nat × Rec)} {res : Int32 × Rec} {NF : Nat} (ob : Rec) (hf : X_prove NF ob = some res) : Runs C B29 0 0 0 [vr a, vn] [] (top, (a, 6, ob) :: H) (Ans (some (.int res.1)) (top, (a, 6, res.2) :: H)) := by
  delta X_prove at hf
  refine Runs.aloadN d29_0 rfl <| ?_
  refine bind_el hf fun r1 hg2 hf => ?_
  refine Runs.callP (N := B9) (W := 0) (as := []) (S' := []) d29_1 w72 w73 w74 rfl cw9 ar9 rk29_9_0 (by decide) rfl rfl (X_completeF_pay hg2) <| ans1 <| ?_
  refine ite_el hf (fun hc3 hf => ?_) (fun hc3 hf => ?_)
  · refine Runs.ifN d29_4 (teq hc3).2 <| ?_
    obtain rfl := Option.some.inj hf
    exact Runs.bipush d29_7 cb_m5 <| Runs.retI d29_9 rfl ⟨by decide, by decide⟩ ⟨rfl, rfl⟩
  · refine Runs.ifY (pc' := 10) d29_4 (feq hc3).2 (by decide) <| ?_
    refine Runs.aloadN d29_10 rfl <| ?_
    refine bind_el hf fun q4 hg5 hf => ?_
    refine Runs.callP (N := B21) (W := 0) (as := []) (S' := []) d29_11 w129 w130 w131 rfl cw21 ar21 rk29_21_0 (by decide) rfl rfl (X_ensureTableF_pay hg5) <| ans0 <| Runs.aloadN d29_14 rfl <| ?_
    refine bind_el hf fun q6 hg7 hf => ?_
    refine Runs.callP (N := B30) (W := 0) (as := []) (S' := []) d29_15 w170 w171 w172 rfl cw30 ar30 rk29_30_0 (by decide) rfl rfl (X_loadWorkNegatedF_pay hg7) <| ans0 <| Runs.aloadN d29_18 rfl <| ?_
    refine bind_el hf fun r8 hg9 hf => ?_
    refine Runs.callP (N := B31) (W := 0) (as := []) (S' := []) d29_19 w175 w176 w177 rfl cw31 ar31 rk29_31_0 (by decide) rfl rfl (X_firstSetInWork_pay hg9) <| ans1 <| Runs.istoreN (P' := [vr a, vi r8]) d29_22 (by decide) rfl <| Runs.iloadN d29_23 rfl <| ?_
    refine ite_el hf (fun hc10 hf => ?_) (fun hc10 hf => ?_)
    · refine Runs.ifN d29_24 (tlt hc10).2.1 <| ?_
      refine Runs.aloadN d29_27 rfl <| Runs.iconst d29_28 ci_1 <| Runs.iconst d29_29 ci_m1 <| ?_
      refine bind_el hf fun q11 hg12 hf => ?_
      obtain rfl := Option.some.inj hf
      exact Runs.callP (N := B33) (W := 0) (as := [.int (1 : Int32), .int (-1 : Int32)]) (S' := []) d29_30 w183 w184 w185 rfl cw33 ar33 rk29_33_0 (by decide) rfl rfl (X_setResult_pay hg12) <| ans0 <| Runs.iconst d29_33 ci_1 <| Runs.retI d29_34 rfl ⟨by decide, by decide⟩ ⟨rfl, rfl⟩
    · refine Runs.ifY (pc' := 35) d29_24 (flt hc10).2.1 (by decide) <| ?_
      refine Runs.aloadN d29_35 rfl <| Runs.iconst d29_36 ci_2 <| Runs.iloadN d29_37 rfl <| ?_
      refine bind_el hf fun q13 hg14 hf => ?_
      obtain rfl := Option.some.inj hf
      exact Runs.callP (N := B33) (W := 0) (as := [.int (2 : Int32), .int r8]) (S' := []) d29_38 w183 w184 w185 rfl cw33 ar33 rk29_33_0 (by decide) rfl rfl (X_setResult_pay hg14) <| ans0 <| Runs.iconst d29_41 ci_2 <| Runs.retI d29_42 rfl ⟨by decide, by decide⟩ ⟨rfl, rfl⟩
theorem X_prove_pay {C : Ctx} {top : Nat} {a : Nat} {H : List (Nat × Nat × Rec)} {res : Int32 × Rec} {NF : Nat} {ob : Rec} (hf : X_prove NF ob = some res) : Pays C B29 [.ref a] (top, (a, 6, ob) :: H) (Ans (some (.int res.1)) (top, (a, 6, res.2) :: H)) :=
  Pays.of pnK (Nat.le_of_ble_eq_true rfl) (P := [vr a, vn]) 1 rfl (X_prove_p ob hf)
def X_loadWorkF_w2 (NF : Nat) (k2 : Rec → Int32 → Option (Rec)) (ob : Rec) (i1 : Int32) : Option (Rec) :=
  if i1 < (4 : Int32) then
    chk (4 : Int32) i1 <|
    chk (4 : Int32) i1 <|
    k2 (sJ ob 5 i1 (gJ ob 3 i1)) (i1 + (1 : Int32))
  else
    some ob
def X_loadWorkF_l2 (NF : Nat) : Nat → Rec → Int32 → Option (Rec)
  | 0, _, _ => none
  | n + 1, ob, i1 => X_loadWorkF_w2 NF (X_loadWorkF_l2 NF n) ob i1
set_option maxRecDepth 65536 in
set_option maxHeartbeats 4000000 in
theorem X_loadWorkF_w2_p {C : Ctx} {top : Nat} {a : Nat} {H : List (Nat × Nat × Rec)} {res : Rec} {NF : Nat} (k2 : Rec → Int32 → Option (Rec)) (hk2 : ∀ (ob : Rec) (i1 : Int32), k2 ob i1 = some res → Runs C B39 0 0 2 [vr a, vi i1] [] (top, (a, 6, ob) :: H) (Ans none (top, (a, 6, res) :: H))) (ob : Rec) (i1 : Int32) (hf : X_loadWorkF_w2 NF k2 ob i1 = some res) : Runs C B39 0 0 2 [vr a, vi i1] [] (top, (a, 6, ob) :: H) (Ans none (top, (a, 6, res) :: H)) := by
  delta X_loadWorkF_w2 at hf
  refine Runs.iloadN d39_2 rfl <| Runs.iconst d39_3 ci_4 <| ?_
  refine ite_el hf (fun hc1 hf => ?_) (fun hc1 hf => ?_)
  · refine Runs.icN d39_4 (tlt hc1).2.1 <| ?_
    refine Runs.aloadN d39_7 rfl <| Runs.getA d39_8 fA_5 w21 (by decide) <| Runs.iloadN d39_11 rfl <| Runs.aloadN d39_12 rfl <| Runs.getA d39_13 fA_3 w17 (by decide) <| Runs.iloadN d39_16 rfl <| ?_
    refine chk_el hf fun hi2 hf => ?_
    refine Runs.laloadA d39_17 fA_3 (by decide) hi2 <| ?_
    refine chk_el hf fun hi3 hf => ?_
    exact Runs.lastoreA d39_18 fA_5 (by decide) hi3 <| Runs.iinc (P' := [vr a, vi (i1 + (1 : Int32))]) d39_19 ci_1 rfl (by decide) rfl <| Runs.goto (pc' := 2) d39_22 (by decide) <| hk2 (sJ ob 5 i1 (gJ ob 3 i1)) (i1 + (1 : Int32)) hf
  · refine Runs.icY (pc' := 25) d39_4 (flt hc1).2.1 (by decide) <| ?_
    obtain rfl := Option.some.inj hf
    exact Runs.retV d39_25 rfl ⟨by decide, by decide⟩ ⟨rfl, rfl⟩
theorem X_loadWorkF_l2_p {C : Ctx} {top : Nat} {a : Nat} {H : List (Nat × Nat × Rec)} {res : Rec} {NF : Nat} (n : Nat) (ob : Rec) (i1 : Int32) (hf : X_loadWorkF_l2 NF n ob i1 = some res) : Runs C B39 0 0 2 [vr a, vi i1] [] (top, (a, 6, ob) :: H) (Ans none (top, (a, 6, res) :: H)) := by
  induction n generalizing ob i1 with
  | zero => cases (show (none : Option (Rec)) = some res from hf)
  | succ n ih => exact X_loadWorkF_w2_p (X_loadWorkF_l2 NF n) (fun ob i1 h => ih _ _ h) ob i1 hf
def X_loadWorkF (NF : Nat) (ob : Rec) : Option (Rec) :=
  X_loadWorkF_l2 NF NF ob (0 : Int32)
set_option maxRecDepth 65536 in
set_option maxHeartbeats 4000000 in
theorem X_loadWorkF_p {C : Ctx} {top : Nat} {a : Nat} {H : List (Nat × Nat × Rec)} {res : Rec} {NF : Nat} (ob : Rec) (hf : X_loadWorkF NF ob = some res) : Runs C B39 0 0 0 [vr a, vn] [] (top, (a, 6, ob) :: H) (Ans none (top, (a, 6, res) :: H)) := by
  delta X_loadWorkF at hf
  exact Runs.iconst d39_0 ci_0 <| Runs.istoreN (P' := [vr a, vi (0 : Int32)]) d39_1 (by decide) rfl <| X_loadWorkF_l2_p NF ob (0 : Int32) hf
theorem X_loadWorkF_pay {C : Ctx} {top : Nat} {a : Nat} {H : List (Nat × Nat × Rec)} {res : Rec} {NF : Nat} {ob : Rec} (hf : X_loadWorkF NF ob = some res) : Pays C B39 [.ref a] (top, (a, 6, ob) :: H) (Ans none (top, (a, 6, res) :: H)) :=
  Pays.of pnK (Nat.le_of_ble_eq_true rfl) (P := [vr a, vn]) 1 rfl (X_loadWorkF_p ob hf)
def X_satisfy (NF : Nat) (ob : Rec) : Option (Int32 × Rec) :=
  (X_completeF ob).bind fun r1 =>
  if r1 = (0 : Int32) then
    some ((-5 : Int32), ob)
  else
    (X_ensureTableF NF ob).bind fun q4 =>
    (X_loadWorkF NF q4).bind fun q6 =>
    (X_firstSetInWork NF q6).bind fun r8 =>
    if r8 < (0 : Int32) then
      (X_setResult q6 (4 : Int32) (-1 : Int32)).bind fun q11 =>
      some ((4 : Int32), q11)
    else
      (X_setResult q6 (3 : Int32) r8).bind fun q13 =>
      some ((3 : Int32), q13)
set_option maxRecDepth 65536 in
set_option maxHeartbeats 4000000 in
theorem X_satisfy_p {C : Ctx} {top : Nat} {a : Nat} {H : List (Nat × Nat × Rec)} {res : Int32 × Rec} {NF : Nat} (ob : Rec) (hf : X_satisfy NF ob = some res) : Runs C B18 0 0 0 [vr a, vn] [] (top, (a, 6, ob) :: H) (Ans (some (.int res.1)) (top, (a, 6, res.2) :: H)) := by
  delta X_satisfy at hf
  refine Runs.aloadN d18_0 rfl <| ?_
  refine bind_el hf fun r1 hg2 hf => ?_
  refine Runs.callP (N := B9) (W := 0) (as := []) (S' := []) d18_1 w72 w73 w74 rfl cw9 ar9 rk18_9_0 (by decide) rfl rfl (X_completeF_pay hg2) <| ans1 <| ?_
  refine ite_el hf (fun hc3 hf => ?_) (fun hc3 hf => ?_)
  · refine Runs.ifN d18_4 (teq hc3).2 <| ?_
    obtain rfl := Option.some.inj hf
    exact Runs.bipush d18_7 cb_m5 <| Runs.retI d18_9 rfl ⟨by decide, by decide⟩ ⟨rfl, rfl⟩
  · refine Runs.ifY (pc' := 10) d18_4 (feq hc3).2 (by decide) <| ?_
    refine Runs.aloadN d18_10 rfl <| ?_
    refine bind_el hf fun q4 hg5 hf => ?_
    refine Runs.callP (N := B21) (W := 0) (as := []) (S' := []) d18_11 w129 w130 w131 rfl cw21 ar21 rk18_21_0 (by decide) rfl rfl (X_ensureTableF_pay hg5) <| ans0 <| Runs.aloadN d18_14 rfl <| ?_
    refine bind_el hf fun q6 hg7 hf => ?_
    refine Runs.callP (N := B39) (W := 0) (as := []) (S' := []) d18_15 w207 w208 w209 rfl cw39 ar39 rk18_39_0 (by decide) rfl rfl (X_loadWorkF_pay hg7) <| ans0 <| Runs.aloadN d18_18 rfl <| ?_
    refine bind_el hf fun r8 hg9 hf => ?_
    refine Runs.callP (N := B31) (W := 0) (as := []) (S' := []) d18_19 w175 w176 w177 rfl cw31 ar31 rk18_31_0 (by decide) rfl rfl (X_firstSetInWork_pay hg9) <| ans1 <| Runs.istoreN (P' := [vr a, vi r8]) d18_22 (by decide) rfl <| Runs.iloadN d18_23 rfl <| ?_
    refine ite_el hf (fun hc10 hf => ?_) (fun hc10 hf => ?_)
    · refine Runs.ifN d18_24 (tlt hc10).2.1 <| ?_
      refine Runs.aloadN d18_27 rfl <| Runs.iconst d18_28 ci_4 <| Runs.iconst d18_29 ci_m1 <| ?_
      refine bind_el hf fun q11 hg12 hf => ?_
      obtain rfl := Option.some.inj hf
      exact Runs.callP (N := B33) (W := 0) (as := [.int (4 : Int32), .int (-1 : Int32)]) (S' := []) d18_30 w183 w184 w185 rfl cw33 ar33 rk18_33_0 (by decide) rfl rfl (X_setResult_pay hg12) <| ans0 <| Runs.iconst d18_33 ci_4 <| Runs.retI d18_34 rfl ⟨by decide, by decide⟩ ⟨rfl, rfl⟩
    · refine Runs.ifY (pc' := 35) d18_24 (flt hc10).2.1 (by decide) <| ?_
      refine Runs.aloadN d18_35 rfl <| Runs.iconst d18_36 ci_3 <| Runs.iloadN d18_37 rfl <| ?_
      refine bind_el hf fun q13 hg14 hf => ?_
      obtain rfl := Option.some.inj hf
      exact Runs.callP (N := B33) (W := 0) (as := [.int (3 : Int32), .int r8]) (S' := []) d18_38 w183 w184 w185 rfl cw33 ar33 rk18_33_0 (by decide) rfl rfl (X_setResult_pay hg14) <| ans0 <| Runs.iconst d18_41 ci_3 <| Runs.retI d18_42 rfl ⟨by decide, by decide⟩ ⟨rfl, rfl⟩
theorem X_satisfy_pay {C : Ctx} {top : Nat} {a : Nat} {H : List (Nat × Nat × Rec)} {res : Int32 × Rec} {NF : Nat} {ob : Rec} (hf : X_satisfy NF ob = some res) : Pays C B18 [.ref a] (top, (a, 6, ob) :: H) (Ans (some (.int res.1)) (top, (a, 6, res.2) :: H)) :=
  Pays.of pnK (Nat.le_of_ble_eq_true rfl) (P := [vr a, vn]) 1 rfl (X_satisfy_p ob hf)
def X_witness (ob : Rec) : Option (Int32) :=
  some (gI ob 6)
set_option maxRecDepth 65536 in
set_option maxHeartbeats 4000000 in
theorem X_witness_p {C : Ctx} {top : Nat} {a : Nat} {H : List (Nat × Nat × Rec)} {ob : Rec} {res : Int32} (hf : X_witness ob = some res) : Runs C B12 0 0 0 [vr a] [] (top, (a, 6, ob) :: H) (Ans (some (.int res)) (top, (a, 6, ob) :: H)) := by
  delta X_witness at hf
  obtain rfl := Option.some.inj hf
  exact Runs.aloadN d12_0 rfl <| Runs.getI d12_1 w41 fS_6 <| Runs.retI d12_4 rfl ⟨by decide, by decide⟩ ⟨rfl, rfl⟩
theorem X_witness_pay {C : Ctx} {top : Nat} {a : Nat} {H : List (Nat × Nat × Rec)} {ob : Rec} {res : Int32} (hf : X_witness ob = some res) : Pays C B12 [.ref a] (top, (a, 6, ob) :: H) (Ans (some (.int res)) (top, (a, 6, ob) :: H)) :=
  Pays.of pnK (Nat.le_of_ble_eq_true rfl) (P := [vr a]) 0 rfl (X_witness_p hf)
def X_bitOfF (ob : Rec) (i1 : Int32) : Option (Int32) :=
  chk (4 : Int32) ((i1 >>> ((6 : Int32) &&& 31)) &&& (3 : Int32)) <|
  some ((((gJ ob 3 ((i1 >>> ((6 : Int32) &&& 31)) &&& (3 : Int32))).toUInt64 >>> ((i1 &&& (63 : Int32)) &&& 0x3f).toInt64.toUInt64).toInt64) &&& (1 : Int64)).toInt32
set_option maxRecDepth 65536 in
set_option maxHeartbeats 4000000 in
theorem X_bitOfF_p {C : Ctx} {top : Nat} {a : Nat} {H : List (Nat × Nat × Rec)} {ob : Rec} {res : Int32} (i1 : Int32) (hf : X_bitOfF ob i1 = some res) : Runs C B36 0 0 0 [vr a, vi i1, vn, vn, vn] [] (top, (a, 6, ob) :: H) (Ans (some (.int res)) (top, (a, 6, ob) :: H)) := by
  delta X_bitOfF at hf
  refine Runs.iloadN d36_0 rfl <| Runs.bipush d36_1 cb_6 <| Runs.ishr d36_3 <| Runs.iconst d36_4 ci_3 <| Runs.iand d36_5 <| Runs.istoreN (P' := [vr a, vi i1, vi ((i1 >>> ((6 : Int32) &&& 31)) &&& (3 : Int32)), vn, vn]) d36_6 (by decide) rfl <| Runs.aloadN d36_7 rfl <| Runs.getA d36_8 fA_3 w17 (by decide) <| Runs.iloadN d36_11 rfl <| ?_
  refine chk_el hf fun hi1 hf => ?_
  obtain rfl := Option.some.inj hf
  exact Runs.laloadA d36_12 fA_3 (by decide) hi1 <| Runs.lstoreN (P' := [vr a, vi i1, vi ((i1 >>> ((6 : Int32) &&& 31)) &&& (3 : Int32)), vl (gJ ob 3 ((i1 >>> ((6 : Int32) &&& 31)) &&& (3 : Int32))), v2]) d36_13 (by decide) rfl <| Runs.lloadN d36_14 rfl <| Runs.iloadN d36_15 rfl <| Runs.bipush d36_16 cb_63 <| Runs.iand d36_18 <| Runs.lushr d36_19 <| Runs.lconst d36_20 cl_1 <| Runs.land d36_21 <| Runs.l2i d36_22 <| Runs.retI d36_23 rfl ⟨by decide, by decide⟩ ⟨rfl, rfl⟩
theorem X_bitOfF_pay {C : Ctx} {top : Nat} {a : Nat} {H : List (Nat × Nat × Rec)} {ob : Rec} {res : Int32} {i1 : Int32} (hf : X_bitOfF ob i1 = some res) : Pays C B36 [.ref a, .int i1] (top, (a, 6, ob) :: H) (Ans (some (.int res)) (top, (a, 6, ob) :: H)) :=
  Pays.of pnK (Nat.le_of_ble_eq_true rfl) (P := [vr a, vi i1, vn, vn, vn]) 3 rfl (X_bitOfF_p i1 hf)
def X_evaluate (NF : Nat) (ob : Rec) (i1 : Int32) : Option (Int32 × Rec) :=
  if i1 < (0 : Int32) then
    some ((-1 : Int32), ob)
  else
    if (255 : Int32) < i1 then
      some ((-1 : Int32), ob)
    else
      (X_completeF ob).bind fun r3 =>
      if r3 = (0 : Int32) then
        some ((-5 : Int32), ob)
      else
        (X_ensureTableF NF ob).bind fun q6 =>
        (X_bitOfF q6 i1).bind fun r8 =>
        some (r8, q6)
set_option maxRecDepth 65536 in
set_option maxHeartbeats 4000000 in
theorem X_evaluate_p {C : Ctx} {top : Nat} {a : Nat} {H : List (Nat × Nat × Rec)} {res : Int32 × Rec} {NF : Nat} (ob : Rec) (i1 : Int32) (hf : X_evaluate NF ob i1 = some res) : Runs C B35 0 0 0 [vr a, vi i1] [] (top, (a, 6, ob) :: H) (Ans (some (.int res.1)) (top, (a, 6, res.2) :: H)) := by
  delta X_evaluate at hf
  refine Runs.iloadN d35_0 rfl <| ?_
  refine ite_el hf (fun hc1 hf => ?_) (fun hc1 hf => ?_)
  · refine Runs.ifY (pc' := 11) d35_1 (tlt hc1).1 (by decide) <| ?_
    obtain rfl := Option.some.inj hf
    exact Runs.iconst d35_11 ci_m1 <| Runs.retI d35_12 rfl ⟨by decide, by decide⟩ ⟨rfl, rfl⟩
  · refine Runs.ifN d35_1 (flt hc1).1 <| ?_
    refine Runs.iloadN d35_4 rfl <| Runs.sipush d35_5 cs_255 <| ?_
    refine ite_el hf (fun hc2 hf => ?_) (fun hc2 hf => ?_)
    · refine Runs.icN d35_8 (tlt hc2).2.2.2 <| ?_
      obtain rfl := Option.some.inj hf
      exact Runs.iconst d35_11 ci_m1 <| Runs.retI d35_12 rfl ⟨by decide, by decide⟩ ⟨rfl, rfl⟩
    · refine Runs.icY (pc' := 13) d35_8 (flt hc2).2.2.2 (by decide) <| ?_
      refine Runs.aloadN d35_13 rfl <| ?_
      refine bind_el hf fun r3 hg4 hf => ?_
      refine Runs.callP (N := B9) (W := 0) (as := []) (S' := []) d35_14 w72 w73 w74 rfl cw9 ar9 rk35_9_0 (by decide) rfl rfl (X_completeF_pay hg4) <| ans1 <| ?_
      refine ite_el hf (fun hc5 hf => ?_) (fun hc5 hf => ?_)
      · refine Runs.ifN d35_17 (teq hc5).2 <| ?_
        obtain rfl := Option.some.inj hf
        exact Runs.bipush d35_20 cb_m5 <| Runs.retI d35_22 rfl ⟨by decide, by decide⟩ ⟨rfl, rfl⟩
      · refine Runs.ifY (pc' := 23) d35_17 (feq hc5).2 (by decide) <| ?_
        refine Runs.aloadN d35_23 rfl <| ?_
        refine bind_el hf fun q6 hg7 hf => ?_
        refine Runs.callP (N := B21) (W := 0) (as := []) (S' := []) d35_24 w129 w130 w131 rfl cw21 ar21 rk35_21_0 (by decide) rfl rfl (X_ensureTableF_pay hg7) <| ans0 <| Runs.aloadN d35_27 rfl <| Runs.iloadN d35_28 rfl <| ?_
        refine bind_el hf fun r8 hg9 hf => ?_
        obtain rfl := Option.some.inj hf
        exact Runs.callP (N := B36) (W := 0) (as := [.int i1]) (S' := []) d35_29 w195 w196 w197 rfl cw36 ar36 rk35_36_0 (by decide) rfl rfl (X_bitOfF_pay hg9) <| ans1 <| Runs.retI d35_32 rfl ⟨by decide, by decide⟩ ⟨rfl, rfl⟩
theorem X_evaluate_pay {C : Ctx} {top : Nat} {a : Nat} {H : List (Nat × Nat × Rec)} {res : Int32 × Rec} {NF : Nat} {ob : Rec} {i1 : Int32} (hf : X_evaluate NF ob i1 = some res) : Pays C B35 [.ref a, .int i1] (top, (a, 6, ob) :: H) (Ans (some (.int res.1)) (top, (a, 6, res.2) :: H)) :=
  Pays.of pnK (Nat.le_of_ble_eq_true rfl) (P := [vr a, vi i1]) 0 rfl (X_evaluate_p ob i1 hf)
def L_allBefore_w2 (NF : Nat) (k2 : Rec → Int32 → Int32 → Int32 → Option (Int32 × Rec)) (ob : Rec) (i1 : Int32) (i2 : Int32) (i3 : Int32) : Option (Int32 × Rec) :=
  if i3 < (256 : Int32) then
    if i3 < i1 then
      bind2 (X_evaluate NF ob i3) fun r3 q4 =>
      if r3 = i2 then
        k2 q4 i1 i2 (i3 + (1 : Int32))
      else
        some ((0 : Int32), q4)
    else
      k2 ob i1 i2 (i3 + (1 : Int32))
  else
    some ((1 : Int32), ob)
def L_allBefore_l2 (NF : Nat) : Nat → Rec → Int32 → Int32 → Int32 → Option (Int32 × Rec)
  | 0, _, _, _, _ => none
  | n + 1, ob, i1, i2, i3 => L_allBefore_w2 NF (L_allBefore_l2 NF n) ob i1 i2 i3
set_option maxRecDepth 65536 in
set_option maxHeartbeats 4000000 in
theorem L_allBefore_w2_p {C : Ctx} {top : Nat} {a : Nat} {H : List (Nat × Nat × Rec)} {res : Int32 × Rec} {NF : Nat} (k2 : Rec → Int32 → Int32 → Int32 → Option (Int32 × Rec)) (hk2 : ∀ (ob : Rec) (i1 : Int32) (i2 : Int32) (i3 : Int32), k2 ob i1 i2 i3 = some res → Runs C B34 0 0 2 [vr a, vi i1, vi i2, vi i3] [] (top, (a, 6, ob) :: H) (Ans (some (.int res.1)) (top, (a, 6, res.2) :: H))) (ob : Rec) (i1 : Int32) (i2 : Int32) (i3 : Int32) (hf : L_allBefore_w2 NF k2 ob i1 i2 i3 = some res) : Runs C B34 0 0 2 [vr a, vi i1, vi i2, vi i3] [] (top, (a, 6, ob) :: H) (Ans (some (.int res.1)) (top, (a, 6, res.2) :: H)) := by
  delta L_allBefore_w2 at hf
  refine Runs.iloadN d34_2 rfl <| Runs.sipush d34_3 cs_256 <| ?_
  refine ite_el hf (fun hc1 hf => ?_) (fun hc1 hf => ?_)
  · refine Runs.icN d34_6 (tlt hc1).2.1 <| ?_
    refine Runs.iloadN d34_9 rfl <| Runs.iloadN d34_10 rfl <| ?_
    refine ite_el hf (fun hc2 hf => ?_) (fun hc2 hf => ?_)
    · refine Runs.icN d34_11 (tlt hc2).2.1 <| ?_
      refine Runs.aloadN d34_14 rfl <| Runs.iloadN d34_15 rfl <| ?_
      refine bind2_el hf fun r3 q4 hg5 hf => ?_
      refine Runs.callV (N := B35) (W := 0) (as := [.int i3]) (S' := []) d34_16 w190 w191 w192 w193 cw35 ar35 rk34_35_0 (by decide) rfl rfl (X_evaluate_pay hg5) <| ans1 <| Runs.iloadN d34_19 rfl <| ?_
      refine ite_el hf (fun hc6 hf => ?_) (fun hc6 hf => ?_)
      · refine Runs.icY (pc' := 25) d34_20 (teq hc6).1 (by decide) <| ?_
        exact Runs.iinc (P' := [vr a, vi i1, vi i2, vi (i3 + (1 : Int32))]) d34_25 ci_1 rfl (by decide) rfl <| Runs.goto (pc' := 2) d34_28 (by decide) <| hk2 q4 i1 i2 (i3 + (1 : Int32)) hf
      · refine Runs.icN d34_20 (feq hc6).1 <| ?_
        obtain rfl := Option.some.inj hf
        exact Runs.iconst d34_23 ci_0 <| Runs.retZ (y := (0 : Int32)) d34_24 rfl ⟨by decide, by decide⟩ rfl ⟨rfl, rfl⟩
    · refine Runs.icY (pc' := 25) d34_11 (flt hc2).2.1 (by decide) <| ?_
      exact Runs.iinc (P' := [vr a, vi i1, vi i2, vi (i3 + (1 : Int32))]) d34_25 ci_1 rfl (by decide) rfl <| Runs.goto (pc' := 2) d34_28 (by decide) <| hk2 ob i1 i2 (i3 + (1 : Int32)) hf
  · refine Runs.icY (pc' := 31) d34_6 (flt hc1).2.1 (by decide) <| ?_
    obtain rfl := Option.some.inj hf
    exact Runs.iconst d34_31 ci_1 <| Runs.retZ (y := (1 : Int32)) d34_32 rfl ⟨by decide, by decide⟩ rfl ⟨rfl, rfl⟩
theorem L_allBefore_l2_p {C : Ctx} {top : Nat} {a : Nat} {H : List (Nat × Nat × Rec)} {res : Int32 × Rec} {NF : Nat} (n : Nat) (ob : Rec) (i1 : Int32) (i2 : Int32) (i3 : Int32) (hf : L_allBefore_l2 NF n ob i1 i2 i3 = some res) : Runs C B34 0 0 2 [vr a, vi i1, vi i2, vi i3] [] (top, (a, 6, ob) :: H) (Ans (some (.int res.1)) (top, (a, 6, res.2) :: H)) := by
  induction n generalizing ob i1 i2 i3 with
  | zero => cases (show (none : Option (Int32 × Rec)) = some res from hf)
  | succ n ih => exact L_allBefore_w2_p (L_allBefore_l2 NF n) (fun ob i1 i2 i3 h => ih _ _ _ _ h) ob i1 i2 i3 hf
def L_allBefore (NF : Nat) (ob : Rec) (i1 : Int32) (i2 : Int32) : Option (Int32 × Rec) :=
  L_allBefore_l2 NF NF ob i1 i2 (0 : Int32)
set_option maxRecDepth 65536 in
set_option maxHeartbeats 4000000 in
theorem L_allBefore_p {C : Ctx} {top : Nat} {a : Nat} {H : List (Nat × Nat × Rec)} {res : Int32 × Rec} {NF : Nat} (ob : Rec) (i1 : Int32) (i2 : Int32) (hf : L_allBefore NF ob i1 i2 = some res) : Runs C B34 0 0 0 [vr a, vi i1, vi i2, vn] [] (top, (a, 6, ob) :: H) (Ans (some (.int res.1)) (top, (a, 6, res.2) :: H)) := by
  delta L_allBefore at hf
  exact Runs.iconst d34_0 ci_0 <| Runs.istoreN (P' := [vr a, vi i1, vi i2, vi (0 : Int32)]) d34_1 (by decide) rfl <| L_allBefore_l2_p NF ob i1 i2 (0 : Int32) hf
theorem L_allBefore_pay {C : Ctx} {top : Nat} {a : Nat} {H : List (Nat × Nat × Rec)} {res : Int32 × Rec} {NF : Nat} {ob : Rec} {i1 : Int32} {i2 : Int32} (hf : L_allBefore NF ob i1 i2 = some res) : Pays C B34 [.ref a, .int i1, .int i2] (top, (a, 6, ob) :: H) (Ans (some (.int res.1)) (top, (a, 6, res.2) :: H)) :=
  Pays.of pnL (Nat.le_of_ble_eq_true rfl) (P := [vr a, vi i1, vi i2, vn]) 1 rfl (L_allBefore_p ob i1 i2 hf)
def X_loadWorkDifference_w2 (NF : Nat) (k2 : Rec → Int32 → Option (Rec)) (ob : Rec) (i1 : Int32) : Option (Rec) :=
  if i1 < (4 : Int32) then
    chk (4 : Int32) i1 <|
    chk (4 : Int32) i1 <|
    chk (4 : Int32) i1 <|
    k2 (sJ ob 5 i1 ((gJ ob 3 i1) ^^^ (gJ ob 4 i1))) (i1 + (1 : Int32))
  else
    some ob
def X_loadWorkDifference_l2 (NF : Nat) : Nat → Rec → Int32 → Option (Rec)
  | 0, _, _ => none
  | n + 1, ob, i1 => X_loadWorkDifference_w2 NF (X_loadWorkDifference_l2 NF n) ob i1
set_option maxRecDepth 65536 in
set_option maxHeartbeats 4000000 in
theorem X_loadWorkDifference_w2_p {C : Ctx} {top : Nat} {a : Nat} {H : List (Nat × Nat × Rec)} {res : Rec} {NF : Nat} (k2 : Rec → Int32 → Option (Rec)) (hk2 : ∀ (ob : Rec) (i1 : Int32), k2 ob i1 = some res → Runs C B38 0 0 2 [vr a, vi i1] [] (top, (a, 6, ob) :: H) (Ans none (top, (a, 6, res) :: H))) (ob : Rec) (i1 : Int32) (hf : X_loadWorkDifference_w2 NF k2 ob i1 = some res) : Runs C B38 0 0 2 [vr a, vi i1] [] (top, (a, 6, ob) :: H) (Ans none (top, (a, 6, res) :: H)) := by
  delta X_loadWorkDifference_w2 at hf
  refine Runs.iloadN d38_2 rfl <| Runs.iconst d38_3 ci_4 <| ?_
  refine ite_el hf (fun hc1 hf => ?_) (fun hc1 hf => ?_)
  · refine Runs.icN d38_4 (tlt hc1).2.1 <| ?_
    refine Runs.aloadN d38_7 rfl <| Runs.getA d38_8 fA_5 w21 (by decide) <| Runs.iloadN d38_11 rfl <| Runs.aloadN d38_12 rfl <| Runs.getA d38_13 fA_3 w17 (by decide) <| Runs.iloadN d38_16 rfl <| ?_
    refine chk_el hf fun hi2 hf => ?_
    refine Runs.laloadA d38_17 fA_3 (by decide) hi2 <| Runs.aloadN d38_18 rfl <| Runs.getA d38_19 fA_4 w19 (by decide) <| Runs.iloadN d38_22 rfl <| ?_
    refine chk_el hf fun hi3 hf => ?_
    refine Runs.laloadA d38_23 fA_4 (by decide) hi3 <| Runs.lxor d38_24 <| ?_
    refine chk_el hf fun hi4 hf => ?_
    exact Runs.lastoreA d38_25 fA_5 (by decide) hi4 <| Runs.iinc (P' := [vr a, vi (i1 + (1 : Int32))]) d38_26 ci_1 rfl (by decide) rfl <| Runs.goto (pc' := 2) d38_29 (by decide) <| hk2 (sJ ob 5 i1 ((gJ ob 3 i1) ^^^ (gJ ob 4 i1))) (i1 + (1 : Int32)) hf
  · refine Runs.icY (pc' := 32) d38_4 (flt hc1).2.1 (by decide) <| ?_
    obtain rfl := Option.some.inj hf
    exact Runs.retV d38_32 rfl ⟨by decide, by decide⟩ ⟨rfl, rfl⟩
theorem X_loadWorkDifference_l2_p {C : Ctx} {top : Nat} {a : Nat} {H : List (Nat × Nat × Rec)} {res : Rec} {NF : Nat} (n : Nat) (ob : Rec) (i1 : Int32) (hf : X_loadWorkDifference_l2 NF n ob i1 = some res) : Runs C B38 0 0 2 [vr a, vi i1] [] (top, (a, 6, ob) :: H) (Ans none (top, (a, 6, res) :: H)) := by
  induction n generalizing ob i1 with
  | zero => cases (show (none : Option (Rec)) = some res from hf)
  | succ n ih => exact X_loadWorkDifference_w2_p (X_loadWorkDifference_l2 NF n) (fun ob i1 h => ih _ _ h) ob i1 hf
def X_loadWorkDifference (NF : Nat) (ob : Rec) : Option (Rec) :=
  X_loadWorkDifference_l2 NF NF ob (0 : Int32)
set_option maxRecDepth 65536 in
set_option maxHeartbeats 4000000 in
theorem X_loadWorkDifference_p {C : Ctx} {top : Nat} {a : Nat} {H : List (Nat × Nat × Rec)} {res : Rec} {NF : Nat} (ob : Rec) (hf : X_loadWorkDifference NF ob = some res) : Runs C B38 0 0 0 [vr a, vn] [] (top, (a, 6, ob) :: H) (Ans none (top, (a, 6, res) :: H)) := by
  delta X_loadWorkDifference at hf
  exact Runs.iconst d38_0 ci_0 <| Runs.istoreN (P' := [vr a, vi (0 : Int32)]) d38_1 (by decide) rfl <| X_loadWorkDifference_l2_p NF ob (0 : Int32) hf
theorem X_loadWorkDifference_pay {C : Ctx} {top : Nat} {a : Nat} {H : List (Nat × Nat × Rec)} {res : Rec} {NF : Nat} {ob : Rec} (hf : X_loadWorkDifference NF ob = some res) : Pays C B38 [.ref a] (top, (a, 6, ob) :: H) (Ans none (top, (a, 6, res) :: H)) :=
  Pays.of pnK (Nat.le_of_ble_eq_true rfl) (P := [vr a, vn]) 1 rfl (X_loadWorkDifference_p ob hf)
def X_equivalent (NF : Nat) (ob : Rec) : Option (Int32 × Rec) :=
  (X_completeF ob).bind fun r1 =>
  if r1 = (0 : Int32) then
    some ((-5 : Int32), ob)
  else
    if (gI ob 4) = (0 : Int32) then
      some ((-6 : Int32), ob)
    else
      (X_ensureTableF NF ob).bind fun q5 =>
      (X_loadWorkDifference NF q5).bind fun q7 =>
      (X_firstSetInWork NF q7).bind fun r9 =>
      if r9 < (0 : Int32) then
        (X_setResult q7 (5 : Int32) (-1 : Int32)).bind fun q12 =>
        some ((5 : Int32), q12)
      else
        (X_setResult q7 (6 : Int32) r9).bind fun q14 =>
        some ((6 : Int32), q14)
set_option maxRecDepth 65536 in
set_option maxHeartbeats 4000000 in
theorem X_equivalent_p {C : Ctx} {top : Nat} {a : Nat} {H : List (Nat × Nat × Rec)} {res : Int32 × Rec} {NF : Nat} (ob : Rec) (hf : X_equivalent NF ob = some res) : Runs C B28 0 0 0 [vr a, vn] [] (top, (a, 6, ob) :: H) (Ans (some (.int res.1)) (top, (a, 6, res.2) :: H)) := by
  delta X_equivalent at hf
  refine Runs.aloadN d28_0 rfl <| ?_
  refine bind_el hf fun r1 hg2 hf => ?_
  refine Runs.callP (N := B9) (W := 0) (as := []) (S' := []) d28_1 w72 w73 w74 rfl cw9 ar9 rk28_9_0 (by decide) rfl rfl (X_completeF_pay hg2) <| ans1 <| ?_
  refine ite_el hf (fun hc3 hf => ?_) (fun hc3 hf => ?_)
  · refine Runs.ifN d28_4 (teq hc3).2 <| ?_
    obtain rfl := Option.some.inj hf
    exact Runs.bipush d28_7 cb_m5 <| Runs.retI d28_9 rfl ⟨by decide, by decide⟩ ⟨rfl, rfl⟩
  · refine Runs.ifY (pc' := 10) d28_4 (feq hc3).2 (by decide) <| ?_
    refine Runs.aloadN d28_10 rfl <| Runs.getI d28_11 w31 fS_4 <| ?_
    refine ite_el hf (fun hc4 hf => ?_) (fun hc4 hf => ?_)
    · refine Runs.ifN d28_14 (teq hc4).2 <| ?_
      obtain rfl := Option.some.inj hf
      exact Runs.bipush d28_17 cb_m6 <| Runs.retI d28_19 rfl ⟨by decide, by decide⟩ ⟨rfl, rfl⟩
    · refine Runs.ifY (pc' := 20) d28_14 (feq hc4).2 (by decide) <| ?_
      refine Runs.aloadN d28_20 rfl <| ?_
      refine bind_el hf fun q5 hg6 hf => ?_
      refine Runs.callP (N := B21) (W := 0) (as := []) (S' := []) d28_21 w129 w130 w131 rfl cw21 ar21 rk28_21_0 (by decide) rfl rfl (X_ensureTableF_pay hg6) <| ans0 <| Runs.aloadN d28_24 rfl <| ?_
      refine bind_el hf fun q7 hg8 hf => ?_
      refine Runs.callP (N := B38) (W := 0) (as := []) (S' := []) d28_25 w203 w204 w205 rfl cw38 ar38 rk28_38_0 (by decide) rfl rfl (X_loadWorkDifference_pay hg8) <| ans0 <| Runs.aloadN d28_28 rfl <| ?_
      refine bind_el hf fun r9 hg10 hf => ?_
      refine Runs.callP (N := B31) (W := 0) (as := []) (S' := []) d28_29 w175 w176 w177 rfl cw31 ar31 rk28_31_0 (by decide) rfl rfl (X_firstSetInWork_pay hg10) <| ans1 <| Runs.istoreN (P' := [vr a, vi r9]) d28_32 (by decide) rfl <| Runs.iloadN d28_33 rfl <| ?_
      refine ite_el hf (fun hc11 hf => ?_) (fun hc11 hf => ?_)
      · refine Runs.ifN d28_34 (tlt hc11).2.1 <| ?_
        refine Runs.aloadN d28_37 rfl <| Runs.iconst d28_38 ci_5 <| Runs.iconst d28_39 ci_m1 <| ?_
        refine bind_el hf fun q12 hg13 hf => ?_
        obtain rfl := Option.some.inj hf
        exact Runs.callP (N := B33) (W := 0) (as := [.int (5 : Int32), .int (-1 : Int32)]) (S' := []) d28_40 w183 w184 w185 rfl cw33 ar33 rk28_33_0 (by decide) rfl rfl (X_setResult_pay hg13) <| ans0 <| Runs.iconst d28_43 ci_5 <| Runs.retI d28_44 rfl ⟨by decide, by decide⟩ ⟨rfl, rfl⟩
      · refine Runs.ifY (pc' := 45) d28_34 (flt hc11).2.1 (by decide) <| ?_
        refine Runs.aloadN d28_45 rfl <| Runs.bipush d28_46 cb_6 <| Runs.iloadN d28_48 rfl <| ?_
        refine bind_el hf fun q14 hg15 hf => ?_
        obtain rfl := Option.some.inj hf
        exact Runs.callP (N := B33) (W := 0) (as := [.int (6 : Int32), .int r9]) (S' := []) d28_49 w183 w184 w185 rfl cw33 ar33 rk28_33_0 (by decide) rfl rfl (X_setResult_pay hg15) <| ans0 <| Runs.bipush d28_52 cb_6 <| Runs.retI d28_54 rfl ⟨by decide, by decide⟩ ⟨rfl, rfl⟩
theorem X_equivalent_pay {C : Ctx} {top : Nat} {a : Nat} {H : List (Nat × Nat × Rec)} {res : Int32 × Rec} {NF : Nat} {ob : Rec} (hf : X_equivalent NF ob = some res) : Pays C B28 [.ref a] (top, (a, 6, ob) :: H) (Ans (some (.int res.1)) (top, (a, 6, res.2) :: H)) :=
  Pays.of pnK (Nat.le_of_ble_eq_true rfl) (P := [vr a, vn]) 1 rfl (X_equivalent_p ob hf)
def X_length (ob : Rec) : Option (Int32) :=
  some (gI ob 1)
set_option maxRecDepth 65536 in
set_option maxHeartbeats 4000000 in
theorem X_length_p {C : Ctx} {top : Nat} {a : Nat} {H : List (Nat × Nat × Rec)} {ob : Rec} {res : Int32} (hf : X_length ob = some res) : Runs C B6 0 0 0 [vr a] [] (top, (a, 6, ob) :: H) (Ans (some (.int res)) (top, (a, 6, ob) :: H)) := by
  delta X_length at hf
  obtain rfl := Option.some.inj hf
  exact Runs.aloadN d6_0 rfl <| Runs.getI d6_1 w25 fS_1 <| Runs.retI d6_4 rfl ⟨by decide, by decide⟩ ⟨rfl, rfl⟩
theorem X_length_pay {C : Ctx} {top : Nat} {a : Nat} {H : List (Nat × Nat × Rec)} {ob : Rec} {res : Int32} (hf : X_length ob = some res) : Pays C B6 [.ref a] (top, (a, 6, ob) :: H) (Ans (some (.int res)) (top, (a, 6, ob) :: H)) :=
  Pays.of pnK (Nat.le_of_ble_eq_true rfl) (P := [vr a]) 0 rfl (X_length_p hf)
def X_depth (ob : Rec) : Option (Int32) :=
  some (gI ob 2)
set_option maxRecDepth 65536 in
set_option maxHeartbeats 4000000 in
theorem X_depth_p {C : Ctx} {top : Nat} {a : Nat} {H : List (Nat × Nat × Rec)} {ob : Rec} {res : Int32} (hf : X_depth ob = some res) : Runs C B7 0 0 0 [vr a] [] (top, (a, 6, ob) :: H) (Ans (some (.int res)) (top, (a, 6, ob) :: H)) := by
  delta X_depth at hf
  obtain rfl := Option.some.inj hf
  exact Runs.aloadN d7_0 rfl <| Runs.getI d7_1 w27 fS_2 <| Runs.retI d7_4 rfl ⟨by decide, by decide⟩ ⟨rfl, rfl⟩
theorem X_depth_pay {C : Ctx} {top : Nat} {a : Nat} {H : List (Nat × Nat × Rec)} {ob : Rec} {res : Int32} (hf : X_depth ob = some res) : Pays C B7 [.ref a] (top, (a, 6, ob) :: H) (Ans (some (.int res)) (top, (a, 6, ob) :: H)) :=
  Pays.of pnK (Nat.le_of_ble_eq_true rfl) (P := [vr a]) 0 rfl (X_depth_p hf)
def X_isComplete (ob : Rec) : Option (Int32) :=
  (X_completeF ob).bind fun r1 =>
  some (r1 &&& 1)
set_option maxRecDepth 65536 in
set_option maxHeartbeats 4000000 in
theorem X_isComplete_p {C : Ctx} {top : Nat} {a : Nat} {H : List (Nat × Nat × Rec)} {ob : Rec} {res : Int32} (hf : X_isComplete ob = some res) : Runs C B8 0 0 0 [vr a] [] (top, (a, 6, ob) :: H) (Ans (some (.int res)) (top, (a, 6, ob) :: H)) := by
  delta X_isComplete at hf
  refine Runs.aloadN d8_0 rfl <| ?_
  refine bind_el hf fun r1 hg2 hf => ?_
  obtain rfl := Option.some.inj hf
  exact Runs.callP (N := B9) (W := 0) (as := []) (S' := []) d8_1 w72 w73 w74 rfl cw9 ar9 rk8_9_0 (by decide) rfl rfl (X_completeF_pay hg2) <| ans1 <| Runs.retZ (y := (r1 &&& 1)) d8_4 rfl ⟨by decide, by decide⟩ rfl ⟨rfl, rfl⟩
theorem X_isComplete_pay {C : Ctx} {top : Nat} {a : Nat} {H : List (Nat × Nat × Rec)} {ob : Rec} {res : Int32} (hf : X_isComplete ob = some res) : Pays C B8 [.ref a] (top, (a, 6, ob) :: H) (Ans (some (.int res)) (top, (a, 6, ob) :: H)) :=
  Pays.of pnK (Nat.le_of_ble_eq_true rfl) (P := [vr a]) 0 rfl (X_isComplete_p hf)
def X_savedLength (ob : Rec) : Option (Int32) :=
  if (gI ob 4) = (0 : Int32) then
    some (0 : Int32)
  else
    some (gI ob 3)
set_option maxRecDepth 65536 in
set_option maxHeartbeats 4000000 in
theorem X_savedLength_p {C : Ctx} {top : Nat} {a : Nat} {H : List (Nat × Nat × Rec)} {ob : Rec} {res : Int32} (hf : X_savedLength ob = some res) : Runs C B10 0 0 0 [vr a] [] (top, (a, 6, ob) :: H) (Ans (some (.int res)) (top, (a, 6, ob) :: H)) := by
  delta X_savedLength at hf
  refine Runs.aloadN d10_0 rfl <| Runs.getI d10_1 w31 fS_4 <| ?_
  refine ite_el hf (fun hc1 hf => ?_) (fun hc1 hf => ?_)
  · refine Runs.ifN d10_4 (teq hc1).2 <| ?_
    obtain rfl := Option.some.inj hf
    exact Runs.iconst d10_7 ci_0 <| Runs.retI d10_8 rfl ⟨by decide, by decide⟩ ⟨rfl, rfl⟩
  · refine Runs.ifY (pc' := 9) d10_4 (feq hc1).2 (by decide) <| ?_
    obtain rfl := Option.some.inj hf
    exact Runs.aloadN d10_9 rfl <| Runs.getI d10_10 w29 fS_3 <| Runs.retI d10_13 rfl ⟨by decide, by decide⟩ ⟨rfl, rfl⟩
theorem X_savedLength_pay {C : Ctx} {top : Nat} {a : Nat} {H : List (Nat × Nat × Rec)} {ob : Rec} {res : Int32} (hf : X_savedLength ob = some res) : Pays C B10 [.ref a] (top, (a, 6, ob) :: H) (Ans (some (.int res)) (top, (a, 6, ob) :: H)) :=
  Pays.of pnK (Nat.le_of_ble_eq_true rfl) (P := [vr a]) 0 rfl (X_savedLength_p hf)
def X_lastResult (ob : Rec) : Option (Int32) :=
  some (gI ob 5)
set_option maxRecDepth 65536 in
set_option maxHeartbeats 4000000 in
theorem X_lastResult_p {C : Ctx} {top : Nat} {a : Nat} {H : List (Nat × Nat × Rec)} {ob : Rec} {res : Int32} (hf : X_lastResult ob = some res) : Runs C B11 0 0 0 [vr a] [] (top, (a, 6, ob) :: H) (Ans (some (.int res)) (top, (a, 6, ob) :: H)) := by
  delta X_lastResult at hf
  obtain rfl := Option.some.inj hf
  exact Runs.aloadN d11_0 rfl <| Runs.getI d11_1 w39 fS_5 <| Runs.retI d11_4 rfl ⟨by decide, by decide⟩ ⟨rfl, rfl⟩
theorem X_lastResult_pay {C : Ctx} {top : Nat} {a : Nat} {H : List (Nat × Nat × Rec)} {ob : Rec} {res : Int32} (hf : X_lastResult ob = some res) : Pays C B11 [.ref a] (top, (a, 6, ob) :: H) (Ans (some (.int res)) (top, (a, 6, ob) :: H)) :=
  Pays.of pnK (Nat.le_of_ble_eq_true rfl) (P := [vr a]) 0 rfl (X_lastResult_p hf)
def X_usedVars_w4 (NF : Nat) (ob : Rec) (k4 : Int32 → Int32 → Option (Int32)) (i1 : Int32) (i2 : Int32) : Option (Int32) :=
  if i2 < (gI ob 1) then
    if i2 < (32 : Int32) then
      chk (32 : Int32) i2 <|
      if (gA ob 0 i2) < (0 : Int32) then
        k4 i1 (i2 + (1 : Int32))
      else
        if (gA ob 0 i2) < (8 : Int32) then
          k4 (i1 ||| ((1 : Int32) <<< ((gA ob 0 i2) &&& 31))) (i2 + (1 : Int32))
        else
          k4 i1 (i2 + (1 : Int32))
    else
      some i1
  else
    some i1
def X_usedVars_l4 (NF : Nat) (ob : Rec) : Nat → Int32 → Int32 → Option (Int32)
  | 0, _, _ => none
  | n + 1, i1, i2 => X_usedVars_w4 NF ob (X_usedVars_l4 NF ob n) i1 i2
set_option maxRecDepth 65536 in
set_option maxHeartbeats 4000000 in
theorem X_usedVars_w4_p {C : Ctx} {top : Nat} {a : Nat} {H : List (Nat × Nat × Rec)} {ob : Rec} {res : Int32} {NF : Nat} (k4 : Int32 → Int32 → Option (Int32)) (hk4 : ∀ (i1 : Int32) (i2 : Int32), k4 i1 i2 = some res → Runs C B13 0 0 4 [vr a, vi i1, vi i2, vn] [] (top, (a, 6, ob) :: H) (Ans (some (.int res)) (top, (a, 6, ob) :: H))) (i1 : Int32) (i2 : Int32) (hf : X_usedVars_w4 NF ob k4 i1 i2 = some res) : Runs C B13 0 0 4 [vr a, vi i1, vi i2, vn] [] (top, (a, 6, ob) :: H) (Ans (some (.int res)) (top, (a, 6, ob) :: H)) := by
  delta X_usedVars_w4 at hf
  refine Runs.iloadN d13_4 rfl <| Runs.aloadN d13_5 rfl <| Runs.getI d13_6 w25 fS_1 <| ?_
  refine ite_el hf (fun hc1 hf => ?_) (fun hc1 hf => ?_)
  · refine Runs.icN d13_9 (tlt hc1).2.1 <| ?_
    refine Runs.iloadN d13_12 rfl <| Runs.bipush d13_13 cb_32 <| ?_
    refine ite_el hf (fun hc2 hf => ?_) (fun hc2 hf => ?_)
    · refine Runs.icN d13_15 (tlt hc2).2.1 <| ?_
      refine Runs.aloadN d13_18 rfl <| Runs.getA d13_19 fA_0 w10 (by decide) <| Runs.iloadN d13_22 rfl <| ?_
      refine chk_el hf fun hi3 hf => ?_
      refine Runs.ialoadA d13_23 fA_0 (by decide) hi3 <| Runs.istoreN (P' := [vr a, vi i1, vi i2, vi (gA ob 0 i2)]) d13_24 (by decide) rfl <| Runs.iloadN d13_25 rfl <| ?_
      refine ite_el hf (fun hc4 hf => ?_) (fun hc4 hf => ?_)
      · refine Runs.ifY (pc' := 41) d13_26 (tlt hc4).1 (by decide) <| ?_
        exact Runs.iinc (P' := [vr a, vi i1, vi (i2 + (1 : Int32)), vi (gA ob 0 i2)]) d13_41 ci_1 rfl (by decide) rfl <| Runs.goto (pc' := 4) d13_44 (by decide) <| Runs.forget [true, true, true, false] rfl <| hk4 i1 (i2 + (1 : Int32)) hf
      · refine Runs.ifN d13_26 (flt hc4).1 <| ?_
        refine Runs.iloadN d13_29 rfl <| Runs.bipush d13_30 cb_8 <| ?_
        refine ite_el hf (fun hc5 hf => ?_) (fun hc5 hf => ?_)
        · refine Runs.icN d13_32 (tlt hc5).2.1 <| ?_
          exact Runs.iloadN d13_35 rfl <| Runs.iconst d13_36 ci_1 <| Runs.iloadN d13_37 rfl <| Runs.ishl d13_38 <| Runs.ior d13_39 <| Runs.istoreN (P' := [vr a, vi (i1 ||| ((1 : Int32) <<< ((gA ob 0 i2) &&& 31))), vi i2, vi (gA ob 0 i2)]) d13_40 (by decide) rfl <| Runs.iinc (P' := [vr a, vi (i1 ||| ((1 : Int32) <<< ((gA ob 0 i2) &&& 31))), vi (i2 + (1 : Int32)), vi (gA ob 0 i2)]) d13_41 ci_1 rfl (by decide) rfl <| Runs.goto (pc' := 4) d13_44 (by decide) <| Runs.forget [true, true, true, false] rfl <| hk4 (i1 ||| ((1 : Int32) <<< ((gA ob 0 i2) &&& 31))) (i2 + (1 : Int32)) hf
        · refine Runs.icY (pc' := 41) d13_32 (flt hc5).2.1 (by decide) <| ?_
          exact Runs.iinc (P' := [vr a, vi i1, vi (i2 + (1 : Int32)), vi (gA ob 0 i2)]) d13_41 ci_1 rfl (by decide) rfl <| Runs.goto (pc' := 4) d13_44 (by decide) <| Runs.forget [true, true, true, false] rfl <| hk4 i1 (i2 + (1 : Int32)) hf
    · refine Runs.icY (pc' := 47) d13_15 (flt hc2).2.1 (by decide) <| ?_
      obtain rfl := Option.some.inj hf
      exact Runs.iloadN d13_47 rfl <| Runs.retI d13_48 rfl ⟨by decide, by decide⟩ ⟨rfl, rfl⟩
  · refine Runs.icY (pc' := 47) d13_9 (flt hc1).2.1 (by decide) <| ?_
    obtain rfl := Option.some.inj hf
    exact Runs.iloadN d13_47 rfl <| Runs.retI d13_48 rfl ⟨by decide, by decide⟩ ⟨rfl, rfl⟩
theorem X_usedVars_l4_p {C : Ctx} {top : Nat} {a : Nat} {H : List (Nat × Nat × Rec)} {ob : Rec} {res : Int32} {NF : Nat} (n : Nat) (i1 : Int32) (i2 : Int32) (hf : X_usedVars_l4 NF ob n i1 i2 = some res) : Runs C B13 0 0 4 [vr a, vi i1, vi i2, vn] [] (top, (a, 6, ob) :: H) (Ans (some (.int res)) (top, (a, 6, ob) :: H)) := by
  induction n generalizing i1 i2 with
  | zero => cases (show (none : Option (Int32)) = some res from hf)
  | succ n ih => exact X_usedVars_w4_p (X_usedVars_l4 NF ob n) (fun i1 i2 h => ih _ _ h) i1 i2 hf
def X_usedVars (NF : Nat) (ob : Rec) : Option (Int32) :=
  X_usedVars_l4 NF ob NF (0 : Int32) (0 : Int32)
set_option maxRecDepth 65536 in
set_option maxHeartbeats 4000000 in
theorem X_usedVars_p {C : Ctx} {top : Nat} {a : Nat} {H : List (Nat × Nat × Rec)} {ob : Rec} {res : Int32} {NF : Nat} (hf : X_usedVars NF ob = some res) : Runs C B13 0 0 0 [vr a, vn, vn, vn] [] (top, (a, 6, ob) :: H) (Ans (some (.int res)) (top, (a, 6, ob) :: H)) := by
  delta X_usedVars at hf
  exact Runs.iconst d13_0 ci_0 <| Runs.istoreN (P' := [vr a, vi (0 : Int32), vn, vn]) d13_1 (by decide) rfl <| Runs.iconst d13_2 ci_0 <| Runs.istoreN (P' := [vr a, vi (0 : Int32), vi (0 : Int32), vn]) d13_3 (by decide) rfl <| X_usedVars_l4_p NF (0 : Int32) (0 : Int32) hf
theorem X_usedVars_pay {C : Ctx} {top : Nat} {a : Nat} {H : List (Nat × Nat × Rec)} {ob : Rec} {res : Int32} {NF : Nat} (hf : X_usedVars NF ob = some res) : Pays C B13 [.ref a] (top, (a, 6, ob) :: H) (Ans (some (.int res)) (top, (a, 6, ob) :: H)) :=
  Pays.of pnK (Nat.le_of_ble_eq_true rfl) (P := [vr a, vn, vn, vn]) 3 rfl (X_usedVars_p hf)
def L_usedOf_w5 (NF : Nat) (k5 : Int64 → Int32 → Int32 → Int32 → Option (Int32)) (l0 : Int64) (i2 : Int32) (i3 : Int32) (i4 : Int32) : Option (Int32) :=
  if i4 < (8 : Int32) then
    if i4 < i2 then
      if (((l0.toUInt64 >>> (((4 : Int32) * i4) &&& 0x3f).toInt64.toUInt64).toInt64) &&& (15 : Int64)).toInt32 < (8 : Int32) then
        k5 l0 i2 (i3 ||| ((1 : Int32) <<< ((((l0.toUInt64 >>> (((4 : Int32) * i4) &&& 0x3f).toInt64.toUInt64).toInt64) &&& (15 : Int64)).toInt32 &&& 31))) (i4 + (1 : Int32))
      else
        k5 l0 i2 i3 (i4 + (1 : Int32))
    else
      k5 l0 i2 i3 (i4 + (1 : Int32))
  else
    some i3
def L_usedOf_l5 (NF : Nat) : Nat → Int64 → Int32 → Int32 → Int32 → Option (Int32)
  | 0, _, _, _, _ => none
  | n + 1, l0, i2, i3, i4 => L_usedOf_w5 NF (L_usedOf_l5 NF n) l0 i2 i3 i4
set_option maxRecDepth 65536 in
set_option maxHeartbeats 4000000 in
theorem L_usedOf_w5_p {C : Ctx} {G : AH} {res : Int32} {NF : Nat} (k5 : Int64 → Int32 → Int32 → Int32 → Option (Int32)) (hk5 : ∀ (l0 : Int64) (i2 : Int32) (i3 : Int32) (i4 : Int32), k5 l0 i2 i3 i4 = some res → Runs C B14 0 0 5 [vl l0, v2, vi i2, vi i3, vi i4, vn] [] G (Ans (some (.int res)) G)) (l0 : Int64) (i2 : Int32) (i3 : Int32) (i4 : Int32) (hf : L_usedOf_w5 NF k5 l0 i2 i3 i4 = some res) : Runs C B14 0 0 5 [vl l0, v2, vi i2, vi i3, vi i4, vn] [] G (Ans (some (.int res)) G) := by
  delta L_usedOf_w5 at hf
  refine Runs.iload d14_5 rfl <| Runs.bipush d14_7 cb_8 <| ?_
  refine ite_el hf (fun hc1 hf => ?_) (fun hc1 hf => ?_)
  · refine Runs.icN d14_9 (tlt hc1).2.1 <| ?_
    refine Runs.iload d14_12 rfl <| Runs.iloadN d14_14 rfl <| ?_
    refine ite_el hf (fun hc2 hf => ?_) (fun hc2 hf => ?_)
    · refine Runs.icN d14_15 (tlt hc2).2.1 <| ?_
      refine Runs.lloadN d14_18 rfl <| Runs.iconst d14_19 ci_4 <| Runs.iload d14_20 rfl <| Runs.imul d14_22 <| Runs.lushr d14_23 <| Runs.ldc2 d14_24 w99 <| Runs.land d14_27 <| Runs.l2i d14_28 <| Runs.istore (P' := [vl l0, v2, vi i2, vi i3, vi i4, vi (((l0.toUInt64 >>> (((4 : Int32) * i4) &&& 0x3f).toInt64.toUInt64).toInt64) &&& (15 : Int64)).toInt32]) d14_29 (by decide) rfl <| Runs.iload d14_31 rfl <| Runs.bipush d14_33 cb_8 <| ?_
      refine ite_el hf (fun hc3 hf => ?_) (fun hc3 hf => ?_)
      · refine Runs.icN d14_35 (tlt hc3).2.1 <| ?_
        exact Runs.iloadN d14_38 rfl <| Runs.iconst d14_39 ci_1 <| Runs.iload d14_40 rfl <| Runs.ishl d14_42 <| Runs.ior d14_43 <| Runs.istoreN (P' := [vl l0, v2, vi i2, vi (i3 ||| ((1 : Int32) <<< ((((l0.toUInt64 >>> (((4 : Int32) * i4) &&& 0x3f).toInt64.toUInt64).toInt64) &&& (15 : Int64)).toInt32 &&& 31))), vi i4, vi (((l0.toUInt64 >>> (((4 : Int32) * i4) &&& 0x3f).toInt64.toUInt64).toInt64) &&& (15 : Int64)).toInt32]) d14_44 (by decide) rfl <| Runs.iinc (P' := [vl l0, v2, vi i2, vi (i3 ||| ((1 : Int32) <<< ((((l0.toUInt64 >>> (((4 : Int32) * i4) &&& 0x3f).toInt64.toUInt64).toInt64) &&& (15 : Int64)).toInt32 &&& 31))), vi (i4 + (1 : Int32)), vi (((l0.toUInt64 >>> (((4 : Int32) * i4) &&& 0x3f).toInt64.toUInt64).toInt64) &&& (15 : Int64)).toInt32]) d14_45 ci_1 rfl (by decide) rfl <| Runs.goto (pc' := 5) d14_48 (by decide) <| Runs.forget [true, true, true, true, true, false] rfl <| hk5 l0 i2 (i3 ||| ((1 : Int32) <<< ((((l0.toUInt64 >>> (((4 : Int32) * i4) &&& 0x3f).toInt64.toUInt64).toInt64) &&& (15 : Int64)).toInt32 &&& 31))) (i4 + (1 : Int32)) hf
      · refine Runs.icY (pc' := 45) d14_35 (flt hc3).2.1 (by decide) <| ?_
        exact Runs.iinc (P' := [vl l0, v2, vi i2, vi i3, vi (i4 + (1 : Int32)), vi (((l0.toUInt64 >>> (((4 : Int32) * i4) &&& 0x3f).toInt64.toUInt64).toInt64) &&& (15 : Int64)).toInt32]) d14_45 ci_1 rfl (by decide) rfl <| Runs.goto (pc' := 5) d14_48 (by decide) <| Runs.forget [true, true, true, true, true, false] rfl <| hk5 l0 i2 i3 (i4 + (1 : Int32)) hf
    · refine Runs.icY (pc' := 45) d14_15 (flt hc2).2.1 (by decide) <| ?_
      exact Runs.iinc (P' := [vl l0, v2, vi i2, vi i3, vi (i4 + (1 : Int32)), vn]) d14_45 ci_1 rfl (by decide) rfl <| Runs.goto (pc' := 5) d14_48 (by decide) <| hk5 l0 i2 i3 (i4 + (1 : Int32)) hf
  · refine Runs.icY (pc' := 51) d14_9 (flt hc1).2.1 (by decide) <| ?_
    obtain rfl := Option.some.inj hf
    exact Runs.iloadN d14_51 rfl <| Runs.retI d14_52 rfl ⟨by decide, by decide⟩ ⟨rfl, rfl⟩
theorem L_usedOf_l5_p {C : Ctx} {G : AH} {res : Int32} {NF : Nat} (n : Nat) (l0 : Int64) (i2 : Int32) (i3 : Int32) (i4 : Int32) (hf : L_usedOf_l5 NF n l0 i2 i3 i4 = some res) : Runs C B14 0 0 5 [vl l0, v2, vi i2, vi i3, vi i4, vn] [] G (Ans (some (.int res)) G) := by
  induction n generalizing l0 i2 i3 i4 with
  | zero => cases (show (none : Option (Int32)) = some res from hf)
  | succ n ih => exact L_usedOf_w5_p (L_usedOf_l5 NF n) (fun l0 i2 i3 i4 h => ih _ _ _ _ h) l0 i2 i3 i4 hf
def L_usedOf (NF : Nat) (l0 : Int64) (i2 : Int32) : Option (Int32) :=
  L_usedOf_l5 NF NF l0 i2 (0 : Int32) (0 : Int32)
set_option maxRecDepth 65536 in
set_option maxHeartbeats 4000000 in
theorem L_usedOf_p {C : Ctx} {G : AH} {res : Int32} {NF : Nat} (l0 : Int64) (i2 : Int32) (hf : L_usedOf NF l0 i2 = some res) : Runs C B14 0 0 0 [vl l0, v2, vi i2, vn, vn, vn] [] G (Ans (some (.int res)) G) := by
  delta L_usedOf at hf
  exact Runs.iconst d14_0 ci_0 <| Runs.istoreN (P' := [vl l0, v2, vi i2, vi (0 : Int32), vn, vn]) d14_1 (by decide) rfl <| Runs.iconst d14_2 ci_0 <| Runs.istore (P' := [vl l0, v2, vi i2, vi (0 : Int32), vi (0 : Int32), vn]) d14_3 (by decide) rfl <| L_usedOf_l5_p NF l0 i2 (0 : Int32) (0 : Int32) hf
theorem L_usedOf_pay {C : Ctx} {G : AH} {res : Int32} {NF : Nat} {l0 : Int64} {i2 : Int32} (hf : L_usedOf NF l0 i2 = some res) : Pays C B14 [.long l0, .int i2] G (Ans (some (.int res)) G) :=
  Pays.of pnL (Nat.le_of_ble_eq_true rfl) (P := [vl l0, v2, vi i2, vn, vn, vn]) 3 rfl (L_usedOf_p l0 i2 hf)
def X_tokenAt (ob : Rec) (i1 : Int32) : Option (Int32) :=
  if i1 < (0 : Int32) then
    some (-1 : Int32)
  else
    if i1 < (gI ob 1) then
      chk (32 : Int32) i1 <|
      some (gA ob 0 i1)
    else
      some (-1 : Int32)
set_option maxRecDepth 65536 in
set_option maxHeartbeats 4000000 in
theorem X_tokenAt_p {C : Ctx} {top : Nat} {a : Nat} {H : List (Nat × Nat × Rec)} {ob : Rec} {res : Int32} (i1 : Int32) (hf : X_tokenAt ob i1 = some res) : Runs C B15 0 0 0 [vr a, vi i1] [] (top, (a, 6, ob) :: H) (Ans (some (.int res)) (top, (a, 6, ob) :: H)) := by
  delta X_tokenAt at hf
  refine Runs.iloadN d15_0 rfl <| ?_
  refine ite_el hf (fun hc1 hf => ?_) (fun hc1 hf => ?_)
  · refine Runs.ifY (pc' := 12) d15_1 (tlt hc1).1 (by decide) <| ?_
    obtain rfl := Option.some.inj hf
    exact Runs.iconst d15_12 ci_m1 <| Runs.retI d15_13 rfl ⟨by decide, by decide⟩ ⟨rfl, rfl⟩
  · refine Runs.ifN d15_1 (flt hc1).1 <| ?_
    refine Runs.iloadN d15_4 rfl <| Runs.aloadN d15_5 rfl <| Runs.getI d15_6 w25 fS_1 <| ?_
    refine ite_el hf (fun hc2 hf => ?_) (fun hc2 hf => ?_)
    · refine Runs.icY (pc' := 14) d15_9 (tlt hc2).1 (by decide) <| ?_
      refine Runs.aloadN d15_14 rfl <| Runs.getA d15_15 fA_0 w10 (by decide) <| Runs.iloadN d15_18 rfl <| ?_
      refine chk_el hf fun hi3 hf => ?_
      obtain rfl := Option.some.inj hf
      exact Runs.ialoadA d15_19 fA_0 (by decide) hi3 <| Runs.retI d15_20 rfl ⟨by decide, by decide⟩ ⟨rfl, rfl⟩
    · refine Runs.icN d15_9 (flt hc2).1 <| ?_
      obtain rfl := Option.some.inj hf
      exact Runs.iconst d15_12 ci_m1 <| Runs.retI d15_13 rfl ⟨by decide, by decide⟩ ⟨rfl, rfl⟩
theorem X_tokenAt_pay {C : Ctx} {top : Nat} {a : Nat} {H : List (Nat × Nat × Rec)} {ob : Rec} {res : Int32} {i1 : Int32} (hf : X_tokenAt ob i1 = some res) : Pays C B15 [.ref a, .int i1] (top, (a, 6, ob) :: H) (Ans (some (.int res)) (top, (a, 6, ob) :: H)) :=
  Pays.of pnK (Nat.le_of_ble_eq_true rfl) (P := [vr a, vi i1]) 0 rfl (X_tokenAt_p i1 hf)
def L_law_b652 (NF : Nat) (z : Int32) (f : Int32 → Int32) (k34 : Rec → Int32 → Int32 → Int32 → Int32 → Int32 → Int64 → Int64 → Int32 → Int32 → Option (Int32)) (ob : Rec) (i2 : Int32) (i3 : Int32) (i4 : Int32) (i5 : Int32) (i6 : Int32) (l7 : Int64) (l9 : Int64) (i11 : Int32) (i12 : Int32) (t0 : Int32) (t1 : Int32) : Option (Int32) :=
  if t0 = t1 then
    (X_savedLength ob).bind fun r95 =>
    if r95 = i4 then
      (X_lastResult ob).bind fun r98 =>
      if r98 = i5 then
        (X_witness ob).bind fun r101 =>
        if r101 = i6 then
          (X_usedVars NF ob).bind fun r104 =>
          (L_usedOf NF l7 i2).bind fun r106 =>
          if r104 = r106 then
            (X_tokenAt ob i2).bind fun r109 =>
            if r109 = (-1 : Int32) then
              if (0 : Int32) < i2 then
                (X_tokenAt ob (i2 - (1 : Int32))).bind fun r113 =>
                if r113 = (((l7.toUInt64 >>> (((4 : Int32) * (i2 - (1 : Int32))) &&& 0x3f).toInt64.toUInt64).toInt64) &&& (15 : Int64)).toInt32 then
                  k34 ob i2 i3 i4 i5 i6 l7 l9 i11 (i12 + (2 : Int32))
                else
                  some (0 : Int32)
              else
                k34 ob i2 i3 i4 i5 i6 l7 l9 i11 (i12 + (2 : Int32))
            else
              some (0 : Int32)
          else
            some (0 : Int32)
        else
          some (0 : Int32)
      else
        some (0 : Int32)
    else
      some (0 : Int32)
  else
    some (0 : Int32)
set_option maxRecDepth 65536 in
set_option maxHeartbeats 4000000 in
theorem L_law_b652_p {C : Ctx} {sa : Nat} {z : Int32} {f : Int32 → Int32} (hs : ScrF C sa z f) {res : Int32} {NF : Nat} (k34 : Rec → Int32 → Int32 → Int32 → Int32 → Int32 → Int64 → Int64 → Int32 → Int32 → Option (Int32)) (hk34 : ∀ (ob : Rec) (i2 : Int32) (i3 : Int32) (i4 : Int32) (i5 : Int32) (i6 : Int32) (l7 : Int64) (l9 : Int64) (i11 : Int32) (i12 : Int32), k34 ob i2 i3 i4 i5 i6 l7 l9 i11 i12 = some res → Runs C B0 7 218 34 [vr sa, vr C.2.2.1, vi i2, vi i3, vi i4, vi i5, vi i6, vl l7, v2, vl l9, v2, vi i11, vi i12, vn, vn, vn, vn, vn, vn, vn, vn] [] (C.2.2.1 + 1 + 6, (C.2.2.1, 6, ob) :: []) (fun v _ => v = (some (.int res)))) (ob : Rec) (i2 : Int32) (i3 : Int32) (i4 : Int32) (i5 : Int32) (i6 : Int32) (l7 : Int64) (l9 : Int64) (i11 : Int32) (i12 : Int32) (t0 : Int32) (t1 : Int32) (hf : L_law_b652 NF z f k34 ob i2 i3 i4 i5 i6 l7 l9 i11 i12 t0 t1 = some res) : Runs C B0 7 218 652 [vr sa, vr C.2.2.1, vi i2, vi i3, vi i4, vi i5, vi i6, vl l7, v2, vl l9, v2, vi i11, vi i12, vn, vn, vn, vn, vn, vn, vn, vn] [.int t1, .int t0] (C.2.2.1 + 1 + 6, (C.2.2.1, 6, ob) :: []) (fun v _ => v = (some (.int res))) := by
  delta L_law_b652 at hf
  refine ite_el hf (fun hc94 hf => ?_) (fun hc94 hf => ?_)
  · refine Runs.icN d0_652 (teq hc94).2 <| ?_
    refine Runs.aloadN d0_655 rfl <| ?_
    refine bind_el hf fun r95 hg96 hf => ?_
    refine Runs.callV (N := B10) (W := 0) (as := []) (S' := []) d0_656 w76 w77 w78 w79 cw10 ar10 rk0_10_0 (by decide) rfl rfl (X_savedLength_pay hg96) <| ans1 <| Runs.iload d0_659 rfl <| ?_
    refine ite_el hf (fun hc97 hf => ?_) (fun hc97 hf => ?_)
    · refine Runs.icY (pc' := 666) d0_661 (teq hc97).1 (by decide) <| ?_
      refine Runs.aloadN d0_666 rfl <| ?_
      refine bind_el hf fun r98 hg99 hf => ?_
      refine Runs.callV (N := B11) (W := 0) (as := []) (S' := []) d0_667 w81 w82 w83 w84 cw11 ar11 rk0_11_0 (by decide) rfl rfl (X_lastResult_pay hg99) <| ans1 <| Runs.iload d0_670 rfl <| ?_
      refine ite_el hf (fun hc100 hf => ?_) (fun hc100 hf => ?_)
      · refine Runs.icN d0_672 (teq hc100).2 <| ?_
        refine Runs.aloadN d0_675 rfl <| ?_
        refine bind_el hf fun r101 hg102 hf => ?_
        refine Runs.callV (N := B12) (W := 0) (as := []) (S' := []) d0_676 w86 w87 w88 w89 cw12 ar12 rk0_12_0 (by decide) rfl rfl (X_witness_pay hg102) <| ans1 <| Runs.iload d0_679 rfl <| ?_
        refine ite_el hf (fun hc103 hf => ?_) (fun hc103 hf => ?_)
        · refine Runs.icY (pc' := 686) d0_681 (teq hc103).1 (by decide) <| ?_
          refine Runs.aloadN d0_686 rfl <| ?_
          refine bind_el hf fun r104 hg105 hf => ?_
          refine Runs.callV (N := B13) (W := 0) (as := []) (S' := []) d0_687 w91 w92 w93 w94 cw13 ar13 rk0_13_0 (by decide) rfl rfl (X_usedVars_pay hg105) <| ans1 <| Runs.lload d0_690 rfl <| Runs.iloadN d0_692 rfl <| ?_
          refine bind_el hf fun r106 hg107 hf => ?_
          refine Runs.callS (N := B14) (W := 1) (as := [.long l7, .int i2]) (S' := [.int r104]) d0_693 w96 w97 cw14 ar14 rk0_14_1 (by decide) rfl rfl (L_usedOf_pay hg107) <| ans1 <| ?_
          refine ite_el hf (fun hc108 hf => ?_) (fun hc108 hf => ?_)
          · refine Runs.icY (pc' := 701) d0_696 (teq hc108).1 (by decide) <| ?_
            refine Runs.aloadN d0_701 rfl <| Runs.iloadN d0_702 rfl <| ?_
            refine bind_el hf fun r109 hg110 hf => ?_
            refine Runs.callV (N := B15) (W := 0) (as := [.int i2]) (S' := []) d0_703 w100 w101 w102 w103 cw15 ar15 rk0_15_0 (by decide) rfl rfl (X_tokenAt_pay hg110) <| ans1 <| Runs.iconst d0_706 ci_m1 <| ?_
            refine ite_el hf (fun hc111 hf => ?_) (fun hc111 hf => ?_)
            · refine Runs.icY (pc' := 712) d0_707 (teq hc111).1 (by decide) <| ?_
              refine Runs.iloadN d0_712 rfl <| ?_
              refine ite_el hf (fun hc112 hf => ?_) (fun hc112 hf => ?_)
              · refine Runs.ifN d0_713 (tlt hc112).2.2.2 <| ?_
                refine Runs.aloadN d0_716 rfl <| Runs.iloadN d0_717 rfl <| Runs.iconst d0_718 ci_1 <| Runs.isub d0_719 <| ?_
                refine bind_el hf fun r113 hg114 hf => ?_
                refine Runs.callV (N := B15) (W := 0) (as := [.int (i2 - (1 : Int32))]) (S' := []) d0_720 w100 w101 w102 w103 cw15 ar15 rk0_15_0 (by decide) rfl rfl (X_tokenAt_pay hg114) <| ans1 <| Runs.lload d0_723 rfl <| Runs.iconst d0_725 ci_4 <| Runs.iloadN d0_726 rfl <| Runs.iconst d0_727 ci_1 <| Runs.isub d0_728 <| Runs.imul d0_729 <| Runs.lushr d0_730 <| Runs.ldc2 d0_731 w99 <| Runs.land d0_734 <| Runs.l2i d0_735 <| ?_
                refine ite_el hf (fun hc115 hf => ?_) (fun hc115 hf => ?_)
                · refine Runs.icY (pc' := 741) d0_736 (teq hc115).1 (by decide) <| ?_
                  exact Runs.iinc (P' := [vr sa, vr C.2.2.1, vi i2, vi i3, vi i4, vi i5, vi i6, vl l7, v2, vl l9, v2, vi i11, vi (i12 + (2 : Int32)), vn, vn, vn, vn, vn, vn, vn, vn]) d0_741 ci_2 rfl (by decide) rfl <| Runs.goto (pc' := 34) d0_744 (by decide) <| hk34 ob i2 i3 i4 i5 i6 l7 l9 i11 (i12 + (2 : Int32)) hf
                · refine Runs.icN d0_736 (feq hc115).1 <| ?_
                  obtain rfl := Option.some.inj hf
                  exact Runs.iconst d0_739 ci_0 <| Runs.retZ (y := (0 : Int32)) d0_740 rfl ⟨by decide, by decide⟩ rfl rfl
              · refine Runs.ifY (pc' := 741) d0_713 (flt hc112).2.2.2 (by decide) <| ?_
                exact Runs.iinc (P' := [vr sa, vr C.2.2.1, vi i2, vi i3, vi i4, vi i5, vi i6, vl l7, v2, vl l9, v2, vi i11, vi (i12 + (2 : Int32)), vn, vn, vn, vn, vn, vn, vn, vn]) d0_741 ci_2 rfl (by decide) rfl <| Runs.goto (pc' := 34) d0_744 (by decide) <| hk34 ob i2 i3 i4 i5 i6 l7 l9 i11 (i12 + (2 : Int32)) hf
            · refine Runs.icN d0_707 (feq hc111).1 <| ?_
              obtain rfl := Option.some.inj hf
              exact Runs.iconst d0_710 ci_0 <| Runs.retZ (y := (0 : Int32)) d0_711 rfl ⟨by decide, by decide⟩ rfl rfl
          · refine Runs.icN d0_696 (feq hc108).1 <| ?_
            obtain rfl := Option.some.inj hf
            exact Runs.iconst d0_699 ci_0 <| Runs.retZ (y := (0 : Int32)) d0_700 rfl ⟨by decide, by decide⟩ rfl rfl
        · refine Runs.icN d0_681 (feq hc103).1 <| ?_
          obtain rfl := Option.some.inj hf
          exact Runs.iconst d0_684 ci_0 <| Runs.retZ (y := (0 : Int32)) d0_685 rfl ⟨by decide, by decide⟩ rfl rfl
      · refine Runs.icY (pc' := 684) d0_672 (feq hc100).2 (by decide) <| ?_
        obtain rfl := Option.some.inj hf
        exact Runs.iconst d0_684 ci_0 <| Runs.retZ (y := (0 : Int32)) d0_685 rfl ⟨by decide, by decide⟩ rfl rfl
    · refine Runs.icN d0_661 (feq hc97).1 <| ?_
      obtain rfl := Option.some.inj hf
      exact Runs.iconst d0_664 ci_0 <| Runs.retZ (y := (0 : Int32)) d0_665 rfl ⟨by decide, by decide⟩ rfl rfl
  · refine Runs.icY (pc' := 664) d0_652 (feq hc94).2 (by decide) <| ?_
    obtain rfl := Option.some.inj hf
    exact Runs.iconst d0_664 ci_0 <| Runs.retZ (y := (0 : Int32)) d0_665 rfl ⟨by decide, by decide⟩ rfl rfl
def L_law_b622 (NF : Nat) (z : Int32) (f : Int32 → Int32) (k34 : Rec → Int32 → Int32 → Int32 → Int32 → Int32 → Int64 → Int64 → Int32 → Int32 → Option (Int32)) (ob : Rec) (i2 : Int32) (i3 : Int32) (i4 : Int32) (i5 : Int32) (i6 : Int32) (l7 : Int64) (l9 : Int64) (i11 : Int32) (i12 : Int32) : Option (Int32) :=
  (X_length ob).bind fun r85 =>
  if r85 = i2 then
    (X_depth ob).bind fun r88 =>
    if r88 = i3 then
      (X_isComplete ob).bind fun r91 =>
      if i3 = (1 : Int32) then
        L_law_b652 NF z f k34 ob i2 i3 i4 i5 i6 l7 l9 i11 i12 r91 (1 : Int32)
      else
        L_law_b652 NF z f k34 ob i2 i3 i4 i5 i6 l7 l9 i11 i12 r91 (0 : Int32)
    else
      some (0 : Int32)
  else
    some (0 : Int32)
set_option maxRecDepth 65536 in
set_option maxHeartbeats 4000000 in
theorem L_law_b622_p {C : Ctx} {sa : Nat} {z : Int32} {f : Int32 → Int32} (hs : ScrF C sa z f) {res : Int32} {NF : Nat} (k34 : Rec → Int32 → Int32 → Int32 → Int32 → Int32 → Int64 → Int64 → Int32 → Int32 → Option (Int32)) (hk34 : ∀ (ob : Rec) (i2 : Int32) (i3 : Int32) (i4 : Int32) (i5 : Int32) (i6 : Int32) (l7 : Int64) (l9 : Int64) (i11 : Int32) (i12 : Int32), k34 ob i2 i3 i4 i5 i6 l7 l9 i11 i12 = some res → Runs C B0 7 218 34 [vr sa, vr C.2.2.1, vi i2, vi i3, vi i4, vi i5, vi i6, vl l7, v2, vl l9, v2, vi i11, vi i12, vn, vn, vn, vn, vn, vn, vn, vn] [] (C.2.2.1 + 1 + 6, (C.2.2.1, 6, ob) :: []) (fun v _ => v = (some (.int res)))) (ob : Rec) (i2 : Int32) (i3 : Int32) (i4 : Int32) (i5 : Int32) (i6 : Int32) (l7 : Int64) (l9 : Int64) (i11 : Int32) (i12 : Int32) (hf : L_law_b622 NF z f k34 ob i2 i3 i4 i5 i6 l7 l9 i11 i12 = some res) : Runs C B0 7 218 622 [vr sa, vr C.2.2.1, vi i2, vi i3, vi i4, vi i5, vi i6, vl l7, v2, vl l9, v2, vi i11, vi i12, vn, vn, vn, vn, vn, vn, vn, vn] [] (C.2.2.1 + 1 + 6, (C.2.2.1, 6, ob) :: []) (fun v _ => v = (some (.int res))) := by
  delta L_law_b622 at hf
  refine Runs.aloadN d0_622 rfl <| ?_
  refine bind_el hf fun r85 hg86 hf => ?_
  refine Runs.callV (N := B6) (W := 0) (as := []) (S' := []) d0_623 w57 w58 w59 w60 cw6 ar6 rk0_6_0 (by decide) rfl rfl (X_length_pay hg86) <| ans1 <| Runs.iloadN d0_626 rfl <| ?_
  refine ite_el hf (fun hc87 hf => ?_) (fun hc87 hf => ?_)
  · refine Runs.icN d0_627 (teq hc87).2 <| ?_
    refine Runs.aloadN d0_630 rfl <| ?_
    refine bind_el hf fun r88 hg89 hf => ?_
    refine Runs.callV (N := B7) (W := 0) (as := []) (S' := []) d0_631 w62 w63 w64 w65 cw7 ar7 rk0_7_0 (by decide) rfl rfl (X_depth_pay hg89) <| ans1 <| Runs.iloadN d0_634 rfl <| ?_
    refine ite_el hf (fun hc90 hf => ?_) (fun hc90 hf => ?_)
    · refine Runs.icN d0_635 (teq hc90).2 <| ?_
      refine Runs.aloadN d0_638 rfl <| ?_
      refine bind_el hf fun r91 hg92 hf => ?_
      refine Runs.callV (N := B8) (W := 0) (as := []) (S' := []) d0_639 w67 w68 w69 w70 cw8 ar8 rk0_8_0 (by decide) rfl rfl (X_isComplete_pay hg92) <| ans1 <| Runs.iloadN d0_642 rfl <| Runs.iconst d0_643 ci_1 <| ?_
      refine ite_el hf (fun hc93 hf => ?_) (fun hc93 hf => ?_)
      · refine Runs.icN d0_644 (teq hc93).2 <| ?_
        exact Runs.iconst d0_647 ci_1 <| Runs.goto (pc' := 652) d0_648 (by decide) <| L_law_b652_p hs k34 hk34 ob i2 i3 i4 i5 i6 l7 l9 i11 i12 r91 (1 : Int32) hf
      · refine Runs.icY (pc' := 651) d0_644 (feq hc93).2 (by decide) <| ?_
        exact Runs.iconst d0_651 ci_0 <| L_law_b652_p hs k34 hk34 ob i2 i3 i4 i5 i6 l7 l9 i11 i12 r91 (0 : Int32) hf
    · refine Runs.icY (pc' := 664) d0_635 (feq hc90).2 (by decide) <| ?_
      obtain rfl := Option.some.inj hf
      exact Runs.iconst d0_664 ci_0 <| Runs.retZ (y := (0 : Int32)) d0_665 rfl ⟨by decide, by decide⟩ rfl rfl
  · refine Runs.icY (pc' := 664) d0_627 (feq hc87).2 (by decide) <| ?_
    obtain rfl := Option.some.inj hf
    exact Runs.iconst d0_664 ci_0 <| Runs.retZ (y := (0 : Int32)) d0_665 rfl ⟨by decide, by decide⟩ rfl rfl
def L_law_b122 (NF : Nat) (z : Int32) (f : Int32 → Int32) (k34 : Rec → Int32 → Int32 → Int32 → Int32 → Int32 → Int64 → Int64 → Int32 → Int32 → Option (Int32)) (ob : Rec) (i2 : Int32) (i3 : Int32) (i4 : Int32) (i5 : Int32) (i6 : Int32) (l7 : Int64) (l9 : Int64) (i11 : Int32) (i12 : Int32) (i15 : Int32) (i16 : Int32) (t0 : Int32) : Option (Int32) :=
  if i16 = t0 then
    if t0 = (0 : Int32) then
      (L_ar i15).bind fun r41 =>
      L_law_b622 NF z f k34 ob (i2 + (1 : Int32)) (i3 + ((1 : Int32) - r41)) i4 (0 : Int32) (-1 : Int32) (l7 ||| (i15.toInt64 <<< (((4 : Int32) * i2) &&& 0x3f).toInt64)) l9 i11 i12
    else
      L_law_b622 NF z f k34 ob i2 i3 i4 i5 i6 l7 l9 i11 i12
  else
    some (0 : Int32)
set_option maxRecDepth 65536 in
set_option maxHeartbeats 4000000 in
theorem L_law_b122_p {C : Ctx} {sa : Nat} {z : Int32} {f : Int32 → Int32} (hs : ScrF C sa z f) {res : Int32} {NF : Nat} (k34 : Rec → Int32 → Int32 → Int32 → Int32 → Int32 → Int64 → Int64 → Int32 → Int32 → Option (Int32)) (hk34 : ∀ (ob : Rec) (i2 : Int32) (i3 : Int32) (i4 : Int32) (i5 : Int32) (i6 : Int32) (l7 : Int64) (l9 : Int64) (i11 : Int32) (i12 : Int32), k34 ob i2 i3 i4 i5 i6 l7 l9 i11 i12 = some res → Runs C B0 7 218 34 [vr sa, vr C.2.2.1, vi i2, vi i3, vi i4, vi i5, vi i6, vl l7, v2, vl l9, v2, vi i11, vi i12, vn, vn, vn, vn, vn, vn, vn, vn] [] (C.2.2.1 + 1 + 6, (C.2.2.1, 6, ob) :: []) (fun v _ => v = (some (.int res)))) (ob : Rec) (i2 : Int32) (i3 : Int32) (i4 : Int32) (i5 : Int32) (i6 : Int32) (l7 : Int64) (l9 : Int64) (i11 : Int32) (i12 : Int32) (i15 : Int32) (i16 : Int32) (t0 : Int32) (hf : L_law_b122 NF z f k34 ob i2 i3 i4 i5 i6 l7 l9 i11 i12 i15 i16 t0 = some res) : Runs C B0 7 218 122 [vr sa, vr C.2.2.1, vi i2, vi i3, vi i4, vi i5, vi i6, vl l7, v2, vl l9, v2, vi i11, vi i12, vn, vn, vi i15, vi i16, vn, vn, vn, vn] [.int t0] (C.2.2.1 + 1 + 6, (C.2.2.1, 6, ob) :: []) (fun v _ => v = (some (.int res))) := by
  delta L_law_b122 at hf
  refine Runs.istore (P' := [vr sa, vr C.2.2.1, vi i2, vi i3, vi i4, vi i5, vi i6, vl l7, v2, vl l9, v2, vi i11, vi i12, vn, vn, vi i15, vi i16, vi t0, vn, vn, vn]) d0_122 (by decide) rfl <| Runs.iload d0_124 rfl <| Runs.iload d0_126 rfl <| ?_
  refine ite_el hf (fun hc39 hf => ?_) (fun hc39 hf => ?_)
  · refine Runs.icY (pc' := 133) d0_128 (teq hc39).1 (by decide) <| ?_
    refine Runs.iload d0_133 rfl <| ?_
    refine ite_el hf (fun hc40 hf => ?_) (fun hc40 hf => ?_)
    · refine Runs.ifN d0_135 (teq hc40).2 <| ?_
      refine Runs.lload d0_138 rfl <| Runs.iload d0_140 rfl <| Runs.i2l d0_142 <| Runs.iconst d0_143 ci_4 <| Runs.iloadN d0_144 rfl <| Runs.imul d0_145 <| Runs.lshl d0_146 <| Runs.lor d0_147 <| Runs.lstore (P' := [vr sa, vr C.2.2.1, vi i2, vi i3, vi i4, vi i5, vi i6, vl (l7 ||| (i15.toInt64 <<< (((4 : Int32) * i2) &&& 0x3f).toInt64)), v2, vl l9, v2, vi i11, vi i12, vn, vn, vi i15, vi i16, vi t0, vn, vn, vn]) d0_148 (by decide) rfl <| Runs.iinc (P' := [vr sa, vr C.2.2.1, vi (i2 + (1 : Int32)), vi i3, vi i4, vi i5, vi i6, vl (l7 ||| (i15.toInt64 <<< (((4 : Int32) * i2) &&& 0x3f).toInt64)), v2, vl l9, v2, vi i11, vi i12, vn, vn, vi i15, vi i16, vi t0, vn, vn, vn]) d0_150 ci_1 rfl (by decide) rfl <| Runs.iloadN d0_153 rfl <| Runs.iconst d0_154 ci_1 <| ?_
      refine Runs.iload d0_155 rfl <| ?_
      refine bind_el hf fun r41 hg42 hf => ?_
      exact Runs.callS (N := B5) (W := 2) (as := [.int i15]) (S' := [.int (1 : Int32), .int i3]) d0_157 w53 w54 cw5 ar5 rk0_5_2 (by decide) rfl rfl (L_ar_pay hg42) <| ans1 <| Runs.isub d0_160 <| Runs.iadd d0_161 <| Runs.istoreN (P' := [vr sa, vr C.2.2.1, vi (i2 + (1 : Int32)), vi (i3 + ((1 : Int32) - r41)), vi i4, vi i5, vi i6, vl (l7 ||| (i15.toInt64 <<< (((4 : Int32) * i2) &&& 0x3f).toInt64)), v2, vl l9, v2, vi i11, vi i12, vn, vn, vi i15, vi i16, vi t0, vn, vn, vn]) d0_162 (by decide) rfl <| Runs.iconst d0_163 ci_0 <| Runs.istore (P' := [vr sa, vr C.2.2.1, vi (i2 + (1 : Int32)), vi (i3 + ((1 : Int32) - r41)), vi i4, vi (0 : Int32), vi i6, vl (l7 ||| (i15.toInt64 <<< (((4 : Int32) * i2) &&& 0x3f).toInt64)), v2, vl l9, v2, vi i11, vi i12, vn, vn, vi i15, vi i16, vi t0, vn, vn, vn]) d0_164 (by decide) rfl <| Runs.iconst d0_166 ci_m1 <| Runs.istore (P' := [vr sa, vr C.2.2.1, vi (i2 + (1 : Int32)), vi (i3 + ((1 : Int32) - r41)), vi i4, vi (0 : Int32), vi (-1 : Int32), vl (l7 ||| (i15.toInt64 <<< (((4 : Int32) * i2) &&& 0x3f).toInt64)), v2, vl l9, v2, vi i11, vi i12, vn, vn, vi i15, vi i16, vi t0, vn, vn, vn]) d0_167 (by decide) rfl <| Runs.goto (pc' := 622) d0_169 (by decide) <| Runs.forget [true, true, true, true, true, true, true, true, true, true, true, true, true, false, false, false, false, false, false, false, false] rfl <| L_law_b622_p hs k34 hk34 ob (i2 + (1 : Int32)) (i3 + ((1 : Int32) - r41)) i4 (0 : Int32) (-1 : Int32) (l7 ||| (i15.toInt64 <<< (((4 : Int32) * i2) &&& 0x3f).toInt64)) l9 i11 i12 hf
    · refine Runs.ifY (pc' := 169) d0_135 (feq hc40).2 (by decide) <| ?_
      exact Runs.goto (pc' := 622) d0_169 (by decide) <| Runs.forget [true, true, true, true, true, true, true, true, true, true, true, true, true, false, false, false, false, false, false, false, false] rfl <| L_law_b622_p hs k34 hk34 ob i2 i3 i4 i5 i6 l7 l9 i11 i12 hf
  · refine Runs.icN d0_128 (feq hc39).1 <| ?_
    obtain rfl := Option.some.inj hf
    exact Runs.iconst d0_131 ci_0 <| Runs.retZ (y := (0 : Int32)) d0_132 rfl ⟨by decide, by decide⟩ rfl rfl
def L_law_b423 (NF : Nat) (z : Int32) (f : Int32 → Int32) (k34 : Rec → Int32 → Int32 → Int32 → Int32 → Int32 → Int64 → Int64 → Int32 → Int32 → Option (Int32)) (ob : Rec) (i2 : Int32) (i3 : Int32) (i4 : Int32) (l7 : Int64) (l9 : Int64) (i11 : Int32) (i12 : Int32) (i16 : Int32) (i17 : Int32) (i18 : Int32) (t0 : Int32) : Option (Int32) :=
  (X_witness ob).bind fun r55 =>
  if i16 = i17 then
    if r55 = (-1 : Int32) then
      bind2 (L_allBefore NF ob (256 : Int32) t0) fun r59 q60 =>
      if r59 = (0 : Int32) then
        some (0 : Int32)
      else
        L_law_b622 NF z f k34 q60 i2 i3 i4 i16 r55 l7 l9 i11 i12
    else
      some (0 : Int32)
  else
    if i16 = i18 then
      if r55 < (0 : Int32) then
        some (0 : Int32)
      else
        if (255 : Int32) < r55 then
          some (0 : Int32)
        else
          bind2 (L_allBefore NF ob r55 t0) fun r66 q67 =>
          if r66 = (0 : Int32) then
            some (0 : Int32)
          else
            bind2 (X_evaluate NF q67 r55) fun r70 q71 =>
            if r70 = t0 then
              some (0 : Int32)
            else
              L_law_b622 NF z f k34 q71 i2 i3 i4 i16 r55 l7 l9 i11 i12
    else
      some (0 : Int32)
set_option maxRecDepth 65536 in
set_option maxHeartbeats 4000000 in
theorem L_law_b423_p {C : Ctx} {sa : Nat} {z : Int32} {f : Int32 → Int32} (hs : ScrF C sa z f) {res : Int32} {NF : Nat} (k34 : Rec → Int32 → Int32 → Int32 → Int32 → Int32 → Int64 → Int64 → Int32 → Int32 → Option (Int32)) (hk34 : ∀ (ob : Rec) (i2 : Int32) (i3 : Int32) (i4 : Int32) (i5 : Int32) (i6 : Int32) (l7 : Int64) (l9 : Int64) (i11 : Int32) (i12 : Int32), k34 ob i2 i3 i4 i5 i6 l7 l9 i11 i12 = some res → Runs C B0 7 218 34 [vr sa, vr C.2.2.1, vi i2, vi i3, vi i4, vi i5, vi i6, vl l7, v2, vl l9, v2, vi i11, vi i12, vn, vn, vn, vn, vn, vn, vn, vn] [] (C.2.2.1 + 1 + 6, (C.2.2.1, 6, ob) :: []) (fun v _ => v = (some (.int res)))) (ob : Rec) (i2 : Int32) (i3 : Int32) (i4 : Int32) (l7 : Int64) (l9 : Int64) (i11 : Int32) (i12 : Int32) (i16 : Int32) (i17 : Int32) (i18 : Int32) (t0 : Int32) (hf : L_law_b423 NF z f k34 ob i2 i3 i4 l7 l9 i11 i12 i16 i17 i18 t0 = some res) : Runs C B0 7 218 423 [vr sa, vr C.2.2.1, vi i2, vi i3, vi i4, vn, vn, vl l7, v2, vl l9, v2, vi i11, vi i12, vn, vn, vn, vi i16, vi i17, vi i18, vn, vn] [.int t0] (C.2.2.1 + 1 + 6, (C.2.2.1, 6, ob) :: []) (fun v _ => v = (some (.int res))) := by
  delta L_law_b423 at hf
  refine Runs.istore (P' := [vr sa, vr C.2.2.1, vi i2, vi i3, vi i4, vn, vn, vl l7, v2, vl l9, v2, vi i11, vi i12, vn, vn, vn, vi i16, vi i17, vi i18, vi t0, vn]) d0_423 (by decide) rfl <| Runs.aloadN d0_425 rfl <| ?_
  refine bind_el hf fun r55 hg56 hf => ?_
  refine Runs.callV (N := B12) (W := 0) (as := []) (S' := []) d0_426 w86 w87 w88 w89 cw12 ar12 rk0_12_0 (by decide) rfl rfl (X_witness_pay hg56) <| ans1 <| Runs.istore (P' := [vr sa, vr C.2.2.1, vi i2, vi i3, vi i4, vn, vn, vl l7, v2, vl l9, v2, vi i11, vi i12, vn, vn, vn, vi i16, vi i17, vi i18, vi t0, vi r55]) d0_429 (by decide) rfl <| Runs.iload d0_431 rfl <| Runs.iload d0_433 rfl <| ?_
  refine ite_el hf (fun hc57 hf => ?_) (fun hc57 hf => ?_)
  · refine Runs.icN d0_435 (teq hc57).2 <| ?_
    refine Runs.iload d0_438 rfl <| Runs.iconst d0_440 ci_m1 <| ?_
    refine ite_el hf (fun hc58 hf => ?_) (fun hc58 hf => ?_)
    · refine Runs.icN d0_441 (teq hc58).2 <| ?_
      refine Runs.aloadN d0_444 rfl <| Runs.sipush d0_445 cs_256 <| Runs.iload d0_448 rfl <| ?_
      refine bind2_el hf fun r59 q60 hg61 hf => ?_
      refine Runs.callS (N := B34) (W := 0) (as := [.ref C.2.2.1, .int (256 : Int32), .int t0]) (S' := []) d0_450 w187 w188 cw34 ar34 rk0_34_0 (by decide) rfl rfl (L_allBefore_pay hg61) <| ans1 <| ?_
      refine ite_el hf (fun hc62 hf => ?_) (fun hc62 hf => ?_)
      · refine Runs.ifN d0_453 (teq hc62).2 <| ?_
        obtain rfl := Option.some.inj hf
        exact Runs.iconst d0_456 ci_0 <| Runs.retZ (y := (0 : Int32)) d0_457 rfl ⟨by decide, by decide⟩ rfl rfl
      · refine Runs.ifY (pc' := 504) d0_453 (feq hc62).2 (by decide) <| ?_
        exact Runs.iload d0_504 rfl <| Runs.istore (P' := [vr sa, vr C.2.2.1, vi i2, vi i3, vi i4, vi i16, vn, vl l7, v2, vl l9, v2, vi i11, vi i12, vn, vn, vn, vi i16, vi i17, vi i18, vi t0, vi r55]) d0_506 (by decide) rfl <| Runs.iload d0_508 rfl <| Runs.istore (P' := [vr sa, vr C.2.2.1, vi i2, vi i3, vi i4, vi i16, vi r55, vl l7, v2, vl l9, v2, vi i11, vi i12, vn, vn, vn, vi i16, vi i17, vi i18, vi t0, vi r55]) d0_510 (by decide) rfl <| Runs.goto (pc' := 622) d0_512 (by decide) <| Runs.forget [true, true, true, true, true, true, true, true, true, true, true, true, true, false, false, false, false, false, false, false, false] rfl <| L_law_b622_p hs k34 hk34 q60 i2 i3 i4 i16 r55 l7 l9 i11 i12 hf
    · refine Runs.icY (pc' := 456) d0_441 (feq hc58).2 (by decide) <| ?_
      obtain rfl := Option.some.inj hf
      exact Runs.iconst d0_456 ci_0 <| Runs.retZ (y := (0 : Int32)) d0_457 rfl ⟨by decide, by decide⟩ rfl rfl
  · refine Runs.icY (pc' := 458) d0_435 (feq hc57).2 (by decide) <| ?_
    refine Runs.iload d0_458 rfl <| Runs.iload d0_460 rfl <| ?_
    refine ite_el hf (fun hc63 hf => ?_) (fun hc63 hf => ?_)
    · refine Runs.icN d0_462 (teq hc63).2 <| ?_
      refine Runs.iload d0_465 rfl <| ?_
      refine ite_el hf (fun hc64 hf => ?_) (fun hc64 hf => ?_)
      · refine Runs.ifY (pc' := 500) d0_467 (tlt hc64).1 (by decide) <| ?_
        obtain rfl := Option.some.inj hf
        exact Runs.iconst d0_500 ci_0 <| Runs.retZ (y := (0 : Int32)) d0_501 rfl ⟨by decide, by decide⟩ rfl rfl
      · refine Runs.ifN d0_467 (flt hc64).1 <| ?_
        refine Runs.iload d0_470 rfl <| Runs.sipush d0_472 cs_255 <| ?_
        refine ite_el hf (fun hc65 hf => ?_) (fun hc65 hf => ?_)
        · refine Runs.icY (pc' := 500) d0_475 (tlt hc65).2.2.1 (by decide) <| ?_
          obtain rfl := Option.some.inj hf
          exact Runs.iconst d0_500 ci_0 <| Runs.retZ (y := (0 : Int32)) d0_501 rfl ⟨by decide, by decide⟩ rfl rfl
        · refine Runs.icN d0_475 (flt hc65).2.2.1 <| ?_
          refine Runs.aloadN d0_478 rfl <| Runs.iload d0_479 rfl <| Runs.iload d0_481 rfl <| ?_
          refine bind2_el hf fun r66 q67 hg68 hf => ?_
          refine Runs.callS (N := B34) (W := 0) (as := [.ref C.2.2.1, .int r55, .int t0]) (S' := []) d0_483 w187 w188 cw34 ar34 rk0_34_0 (by decide) rfl rfl (L_allBefore_pay hg68) <| ans1 <| ?_
          refine ite_el hf (fun hc69 hf => ?_) (fun hc69 hf => ?_)
          · refine Runs.ifY (pc' := 500) d0_486 (teq hc69).1 (by decide) <| ?_
            obtain rfl := Option.some.inj hf
            exact Runs.iconst d0_500 ci_0 <| Runs.retZ (y := (0 : Int32)) d0_501 rfl ⟨by decide, by decide⟩ rfl rfl
          · refine Runs.ifN d0_486 (feq hc69).1 <| ?_
            refine Runs.aloadN d0_489 rfl <| Runs.iload d0_490 rfl <| ?_
            refine bind2_el hf fun r70 q71 hg72 hf => ?_
            refine Runs.callV (N := B35) (W := 0) (as := [.int r55]) (S' := []) d0_492 w190 w191 w192 w193 cw35 ar35 rk0_35_0 (by decide) rfl rfl (X_evaluate_pay hg72) <| ans1 <| Runs.iload d0_495 rfl <| ?_
            refine ite_el hf (fun hc73 hf => ?_) (fun hc73 hf => ?_)
            · refine Runs.icN d0_497 (teq hc73).2 <| ?_
              obtain rfl := Option.some.inj hf
              exact Runs.iconst d0_500 ci_0 <| Runs.retZ (y := (0 : Int32)) d0_501 rfl ⟨by decide, by decide⟩ rfl rfl
            · refine Runs.icY (pc' := 504) d0_497 (feq hc73).2 (by decide) <| ?_
              exact Runs.iload d0_504 rfl <| Runs.istore (P' := [vr sa, vr C.2.2.1, vi i2, vi i3, vi i4, vi i16, vn, vl l7, v2, vl l9, v2, vi i11, vi i12, vn, vn, vn, vi i16, vi i17, vi i18, vi t0, vi r55]) d0_506 (by decide) rfl <| Runs.iload d0_508 rfl <| Runs.istore (P' := [vr sa, vr C.2.2.1, vi i2, vi i3, vi i4, vi i16, vi r55, vl l7, v2, vl l9, v2, vi i11, vi i12, vn, vn, vn, vi i16, vi i17, vi i18, vi t0, vi r55]) d0_510 (by decide) rfl <| Runs.goto (pc' := 622) d0_512 (by decide) <| Runs.forget [true, true, true, true, true, true, true, true, true, true, true, true, true, false, false, false, false, false, false, false, false] rfl <| L_law_b622_p hs k34 hk34 q71 i2 i3 i4 i16 r55 l7 l9 i11 i12 hf
    · refine Runs.icY (pc' := 502) d0_462 (feq hc63).2 (by decide) <| ?_
      obtain rfl := Option.some.inj hf
      exact Runs.iconst d0_502 ci_0 <| Runs.retZ (y := (0 : Int32)) d0_503 rfl ⟨by decide, by decide⟩ rfl rfl
def L_law_b411 (NF : Nat) (z : Int32) (f : Int32 → Int32) (k34 : Rec → Int32 → Int32 → Int32 → Int32 → Int32 → Int64 → Int64 → Int32 → Int32 → Option (Int32)) (ob : Rec) (i2 : Int32) (i3 : Int32) (i4 : Int32) (l7 : Int64) (l9 : Int64) (i11 : Int32) (i12 : Int32) (i15 : Int32) (i16 : Int32) (i17 : Int32) (t0 : Int32) : Option (Int32) :=
  if i15 = (0 : Int32) then
    L_law_b423 NF z f k34 ob i2 i3 i4 l7 l9 i11 i12 i16 i17 t0 (0 : Int32)
  else
    L_law_b423 NF z f k34 ob i2 i3 i4 l7 l9 i11 i12 i16 i17 t0 (1 : Int32)
set_option maxRecDepth 65536 in
set_option maxHeartbeats 4000000 in
theorem L_law_b411_p {C : Ctx} {sa : Nat} {z : Int32} {f : Int32 → Int32} (hs : ScrF C sa z f) {res : Int32} {NF : Nat} (k34 : Rec → Int32 → Int32 → Int32 → Int32 → Int32 → Int64 → Int64 → Int32 → Int32 → Option (Int32)) (hk34 : ∀ (ob : Rec) (i2 : Int32) (i3 : Int32) (i4 : Int32) (i5 : Int32) (i6 : Int32) (l7 : Int64) (l9 : Int64) (i11 : Int32) (i12 : Int32), k34 ob i2 i3 i4 i5 i6 l7 l9 i11 i12 = some res → Runs C B0 7 218 34 [vr sa, vr C.2.2.1, vi i2, vi i3, vi i4, vi i5, vi i6, vl l7, v2, vl l9, v2, vi i11, vi i12, vn, vn, vn, vn, vn, vn, vn, vn] [] (C.2.2.1 + 1 + 6, (C.2.2.1, 6, ob) :: []) (fun v _ => v = (some (.int res)))) (ob : Rec) (i2 : Int32) (i3 : Int32) (i4 : Int32) (l7 : Int64) (l9 : Int64) (i11 : Int32) (i12 : Int32) (i15 : Int32) (i16 : Int32) (i17 : Int32) (t0 : Int32) (hf : L_law_b411 NF z f k34 ob i2 i3 i4 l7 l9 i11 i12 i15 i16 i17 t0 = some res) : Runs C B0 7 218 411 [vr sa, vr C.2.2.1, vi i2, vi i3, vi i4, vn, vn, vl l7, v2, vl l9, v2, vi i11, vi i12, vn, vn, vi i15, vi i16, vi i17, vn, vn, vn] [.int t0] (C.2.2.1 + 1 + 6, (C.2.2.1, 6, ob) :: []) (fun v _ => v = (some (.int res))) := by
  delta L_law_b411 at hf
  refine Runs.istore (P' := [vr sa, vr C.2.2.1, vi i2, vi i3, vi i4, vn, vn, vl l7, v2, vl l9, v2, vi i11, vi i12, vn, vn, vi i15, vi i16, vi i17, vi t0, vn, vn]) d0_411 (by decide) rfl <| Runs.iload d0_413 rfl <| ?_
  refine ite_el hf (fun hc54 hf => ?_) (fun hc54 hf => ?_)
  · refine Runs.ifY (pc' := 422) d0_415 (teq hc54).1 (by decide) <| ?_
    exact Runs.iconst d0_422 ci_0 <| Runs.forget [true, true, true, true, true, false, false, true, true, true, true, true, true, false, false, false, true, true, true, false, false] rfl <| L_law_b423_p hs k34 hk34 ob i2 i3 i4 l7 l9 i11 i12 i16 i17 t0 (0 : Int32) hf
  · refine Runs.ifN d0_415 (feq hc54).1 <| ?_
    exact Runs.iconst d0_418 ci_1 <| Runs.goto (pc' := 423) d0_419 (by decide) <| Runs.forget [true, true, true, true, true, false, false, true, true, true, true, true, true, false, false, false, true, true, true, false, false] rfl <| L_law_b423_p hs k34 hk34 ob i2 i3 i4 l7 l9 i11 i12 i16 i17 t0 (1 : Int32) hf
def L_law_b399 (NF : Nat) (z : Int32) (f : Int32 → Int32) (k34 : Rec → Int32 → Int32 → Int32 → Int32 → Int32 → Int64 → Int64 → Int32 → Int32 → Option (Int32)) (ob : Rec) (i2 : Int32) (i3 : Int32) (i4 : Int32) (l7 : Int64) (l9 : Int64) (i11 : Int32) (i12 : Int32) (i15 : Int32) (i16 : Int32) (t0 : Int32) : Option (Int32) :=
  if i15 = (0 : Int32) then
    L_law_b411 NF z f k34 ob i2 i3 i4 l7 l9 i11 i12 i15 i16 t0 (3 : Int32)
  else
    L_law_b411 NF z f k34 ob i2 i3 i4 l7 l9 i11 i12 i15 i16 t0 (2 : Int32)
set_option maxRecDepth 65536 in
set_option maxHeartbeats 4000000 in
theorem L_law_b399_p {C : Ctx} {sa : Nat} {z : Int32} {f : Int32 → Int32} (hs : ScrF C sa z f) {res : Int32} {NF : Nat} (k34 : Rec → Int32 → Int32 → Int32 → Int32 → Int32 → Int64 → Int64 → Int32 → Int32 → Option (Int32)) (hk34 : ∀ (ob : Rec) (i2 : Int32) (i3 : Int32) (i4 : Int32) (i5 : Int32) (i6 : Int32) (l7 : Int64) (l9 : Int64) (i11 : Int32) (i12 : Int32), k34 ob i2 i3 i4 i5 i6 l7 l9 i11 i12 = some res → Runs C B0 7 218 34 [vr sa, vr C.2.2.1, vi i2, vi i3, vi i4, vi i5, vi i6, vl l7, v2, vl l9, v2, vi i11, vi i12, vn, vn, vn, vn, vn, vn, vn, vn] [] (C.2.2.1 + 1 + 6, (C.2.2.1, 6, ob) :: []) (fun v _ => v = (some (.int res)))) (ob : Rec) (i2 : Int32) (i3 : Int32) (i4 : Int32) (l7 : Int64) (l9 : Int64) (i11 : Int32) (i12 : Int32) (i15 : Int32) (i16 : Int32) (t0 : Int32) (hf : L_law_b399 NF z f k34 ob i2 i3 i4 l7 l9 i11 i12 i15 i16 t0 = some res) : Runs C B0 7 218 399 [vr sa, vr C.2.2.1, vi i2, vi i3, vi i4, vn, vn, vl l7, v2, vl l9, v2, vi i11, vi i12, vn, vn, vi i15, vi i16, vn, vn, vn, vn] [.int t0] (C.2.2.1 + 1 + 6, (C.2.2.1, 6, ob) :: []) (fun v _ => v = (some (.int res))) := by
  delta L_law_b399 at hf
  refine Runs.istore (P' := [vr sa, vr C.2.2.1, vi i2, vi i3, vi i4, vn, vn, vl l7, v2, vl l9, v2, vi i11, vi i12, vn, vn, vi i15, vi i16, vi t0, vn, vn, vn]) d0_399 (by decide) rfl <| Runs.iload d0_401 rfl <| ?_
  refine ite_el hf (fun hc53 hf => ?_) (fun hc53 hf => ?_)
  · refine Runs.ifY (pc' := 410) d0_403 (teq hc53).1 (by decide) <| ?_
    exact Runs.iconst d0_410 ci_3 <| L_law_b411_p hs k34 hk34 ob i2 i3 i4 l7 l9 i11 i12 i15 i16 t0 (3 : Int32) hf
  · refine Runs.ifN d0_403 (feq hc53).1 <| ?_
    exact Runs.iconst d0_406 ci_2 <| Runs.goto (pc' := 411) d0_407 (by decide) <| L_law_b411_p hs k34 hk34 ob i2 i3 i4 l7 l9 i11 i12 i15 i16 t0 (2 : Int32) hf
def L_law_b373 (NF : Nat) (z : Int32) (f : Int32 → Int32) (k34 : Rec → Int32 → Int32 → Int32 → Int32 → Int32 → Int64 → Int64 → Int32 → Int32 → Option (Int32)) (ob : Rec) (i2 : Int32) (i3 : Int32) (i4 : Int32) (i5 : Int32) (i6 : Int32) (l7 : Int64) (l9 : Int64) (i11 : Int32) (i12 : Int32) (i15 : Int32) (t0 : Int32) : Option (Int32) :=
  if i3 = (1 : Int32) then
    if i15 = (0 : Int32) then
      L_law_b399 NF z f k34 ob i2 i3 i4 l7 l9 i11 i12 i15 t0 (4 : Int32)
    else
      L_law_b399 NF z f k34 ob i2 i3 i4 l7 l9 i11 i12 i15 t0 (1 : Int32)
  else
    if t0 = (-5 : Int32) then
      L_law_b622 NF z f k34 ob i2 i3 i4 i5 i6 l7 l9 i11 i12
    else
      some (0 : Int32)
set_option maxRecDepth 65536 in
set_option maxHeartbeats 4000000 in
theorem L_law_b373_p {C : Ctx} {sa : Nat} {z : Int32} {f : Int32 → Int32} (hs : ScrF C sa z f) {res : Int32} {NF : Nat} (k34 : Rec → Int32 → Int32 → Int32 → Int32 → Int32 → Int64 → Int64 → Int32 → Int32 → Option (Int32)) (hk34 : ∀ (ob : Rec) (i2 : Int32) (i3 : Int32) (i4 : Int32) (i5 : Int32) (i6 : Int32) (l7 : Int64) (l9 : Int64) (i11 : Int32) (i12 : Int32), k34 ob i2 i3 i4 i5 i6 l7 l9 i11 i12 = some res → Runs C B0 7 218 34 [vr sa, vr C.2.2.1, vi i2, vi i3, vi i4, vi i5, vi i6, vl l7, v2, vl l9, v2, vi i11, vi i12, vn, vn, vn, vn, vn, vn, vn, vn] [] (C.2.2.1 + 1 + 6, (C.2.2.1, 6, ob) :: []) (fun v _ => v = (some (.int res)))) (ob : Rec) (i2 : Int32) (i3 : Int32) (i4 : Int32) (i5 : Int32) (i6 : Int32) (l7 : Int64) (l9 : Int64) (i11 : Int32) (i12 : Int32) (i15 : Int32) (t0 : Int32) (hf : L_law_b373 NF z f k34 ob i2 i3 i4 i5 i6 l7 l9 i11 i12 i15 t0 = some res) : Runs C B0 7 218 373 [vr sa, vr C.2.2.1, vi i2, vi i3, vi i4, vi i5, vi i6, vl l7, v2, vl l9, v2, vi i11, vi i12, vn, vn, vi i15, vn, vn, vn, vn, vn] [.int t0] (C.2.2.1 + 1 + 6, (C.2.2.1, 6, ob) :: []) (fun v _ => v = (some (.int res))) := by
  delta L_law_b373 at hf
  refine Runs.istore (P' := [vr sa, vr C.2.2.1, vi i2, vi i3, vi i4, vi i5, vi i6, vl l7, v2, vl l9, v2, vi i11, vi i12, vn, vn, vi i15, vi t0, vn, vn, vn, vn]) d0_373 (by decide) rfl <| Runs.iloadN d0_375 rfl <| Runs.iconst d0_376 ci_1 <| ?_
  refine ite_el hf (fun hc50 hf => ?_) (fun hc50 hf => ?_)
  · refine Runs.icY (pc' := 389) d0_377 (teq hc50).1 (by decide) <| ?_
    refine Runs.iload d0_389 rfl <| ?_
    refine ite_el hf (fun hc51 hf => ?_) (fun hc51 hf => ?_)
    · refine Runs.ifY (pc' := 398) d0_391 (teq hc51).1 (by decide) <| ?_
      exact Runs.iconst d0_398 ci_4 <| Runs.forget [true, true, true, true, true, false, false, true, true, true, true, true, true, false, false, true, true, false, false, false, false] rfl <| L_law_b399_p hs k34 hk34 ob i2 i3 i4 l7 l9 i11 i12 i15 t0 (4 : Int32) hf
    · refine Runs.ifN d0_391 (feq hc51).1 <| ?_
      exact Runs.iconst d0_394 ci_1 <| Runs.goto (pc' := 399) d0_395 (by decide) <| Runs.forget [true, true, true, true, true, false, false, true, true, true, true, true, true, false, false, true, true, false, false, false, false] rfl <| L_law_b399_p hs k34 hk34 ob i2 i3 i4 l7 l9 i11 i12 i15 t0 (1 : Int32) hf
  · refine Runs.icN d0_377 (feq hc50).1 <| ?_
    refine Runs.iload d0_380 rfl <| Runs.bipush d0_382 cb_m5 <| ?_
    refine ite_el hf (fun hc52 hf => ?_) (fun hc52 hf => ?_)
    · refine Runs.icY (pc' := 512) d0_384 (teq hc52).1 (by decide) <| ?_
      exact Runs.goto (pc' := 622) d0_512 (by decide) <| Runs.forget [true, true, true, true, true, true, true, true, true, true, true, true, true, false, false, false, false, false, false, false, false] rfl <| L_law_b622_p hs k34 hk34 ob i2 i3 i4 i5 i6 l7 l9 i11 i12 hf
    · refine Runs.icN d0_384 (feq hc52).1 <| ?_
      obtain rfl := Option.some.inj hf
      exact Runs.iconst d0_387 ci_0 <| Runs.retZ (y := (0 : Int32)) d0_388 rfl ⟨by decide, by decide⟩ rfl rfl
def L_law_b355 (NF : Nat) (z : Int32) (f : Int32 → Int32) (k34 : Rec → Int32 → Int32 → Int32 → Int32 → Int32 → Int64 → Int64 → Int32 → Int32 → Option (Int32)) (ob : Rec) (i2 : Int32) (i3 : Int32) (i4 : Int32) (i5 : Int32) (i6 : Int32) (l7 : Int64) (l9 : Int64) (i11 : Int32) (i12 : Int32) (t0 : Int32) : Option (Int32) :=
  if t0 = (0 : Int32) then
    bind2 (X_satisfy NF ob) fun r44 q45 =>
    L_law_b373 NF z f k34 q45 i2 i3 i4 i5 i6 l7 l9 i11 i12 t0 r44
  else
    bind2 (X_prove NF ob) fun r47 q48 =>
    L_law_b373 NF z f k34 q48 i2 i3 i4 i5 i6 l7 l9 i11 i12 t0 r47
set_option maxRecDepth 65536 in
set_option maxHeartbeats 4000000 in
theorem L_law_b355_p {C : Ctx} {sa : Nat} {z : Int32} {f : Int32 → Int32} (hs : ScrF C sa z f) {res : Int32} {NF : Nat} (k34 : Rec → Int32 → Int32 → Int32 → Int32 → Int32 → Int64 → Int64 → Int32 → Int32 → Option (Int32)) (hk34 : ∀ (ob : Rec) (i2 : Int32) (i3 : Int32) (i4 : Int32) (i5 : Int32) (i6 : Int32) (l7 : Int64) (l9 : Int64) (i11 : Int32) (i12 : Int32), k34 ob i2 i3 i4 i5 i6 l7 l9 i11 i12 = some res → Runs C B0 7 218 34 [vr sa, vr C.2.2.1, vi i2, vi i3, vi i4, vi i5, vi i6, vl l7, v2, vl l9, v2, vi i11, vi i12, vn, vn, vn, vn, vn, vn, vn, vn] [] (C.2.2.1 + 1 + 6, (C.2.2.1, 6, ob) :: []) (fun v _ => v = (some (.int res)))) (ob : Rec) (i2 : Int32) (i3 : Int32) (i4 : Int32) (i5 : Int32) (i6 : Int32) (l7 : Int64) (l9 : Int64) (i11 : Int32) (i12 : Int32) (t0 : Int32) (hf : L_law_b355 NF z f k34 ob i2 i3 i4 i5 i6 l7 l9 i11 i12 t0 = some res) : Runs C B0 7 218 355 [vr sa, vr C.2.2.1, vi i2, vi i3, vi i4, vi i5, vi i6, vl l7, v2, vl l9, v2, vi i11, vi i12, vn, vn, vn, vn, vn, vn, vn, vn] [.int t0] (C.2.2.1 + 1 + 6, (C.2.2.1, 6, ob) :: []) (fun v _ => v = (some (.int res))) := by
  delta L_law_b355 at hf
  refine Runs.istore (P' := [vr sa, vr C.2.2.1, vi i2, vi i3, vi i4, vi i5, vi i6, vl l7, v2, vl l9, v2, vi i11, vi i12, vn, vn, vi t0, vn, vn, vn, vn, vn]) d0_355 (by decide) rfl <| Runs.iload d0_357 rfl <| ?_
  refine ite_el hf (fun hc43 hf => ?_) (fun hc43 hf => ?_)
  · refine Runs.ifY (pc' := 369) d0_359 (teq hc43).1 (by decide) <| ?_
    refine Runs.aloadN d0_369 rfl <| ?_
    refine bind2_el hf fun r44 q45 hg46 hf => ?_
    exact Runs.callV (N := B18) (W := 0) (as := []) (S' := []) d0_370 w115 w116 w117 w118 cw18 ar18 rk0_18_0 (by decide) rfl rfl (X_satisfy_pay hg46) <| ans1 <| L_law_b373_p hs k34 hk34 q45 i2 i3 i4 i5 i6 l7 l9 i11 i12 t0 r44 hf
  · refine Runs.ifN d0_359 (feq hc43).1 <| ?_
    refine Runs.aloadN d0_362 rfl <| ?_
    refine bind2_el hf fun r47 q48 hg49 hf => ?_
    exact Runs.callV (N := B29) (W := 0) (as := []) (S' := []) d0_363 w164 w165 w166 w167 cw29 ar29 rk0_29_0 (by decide) rfl rfl (X_prove_pay hg49) <| ans1 <| Runs.goto (pc' := 373) d0_366 (by decide) <| L_law_b373_p hs k34 hk34 q48 i2 i3 i4 i5 i6 l7 l9 i11 i12 t0 r47 hf
def L_law_b542 (NF : Nat) (z : Int32) (f : Int32 → Int32) (k34 : Rec → Int32 → Int32 → Int32 → Int32 → Int32 → Int64 → Int64 → Int32 → Int32 → Option (Int32)) (ob : Rec) (i2 : Int32) (i3 : Int32) (i4 : Int32) (i5 : Int32) (i6 : Int32) (l7 : Int64) (l9 : Int64) (i11 : Int32) (i12 : Int32) (i15 : Int32) (t0 : Int32) : Option (Int32) :=
  if t0 = (0 : Int32) then
    (X_witness ob).bind fun r75 =>
    if i15 = (5 : Int32) then
      if r75 = (-1 : Int32) then
        L_law_b622 NF z f k34 ob i2 i3 i4 i15 r75 l7 l9 i11 i12
      else
        some (0 : Int32)
    else
      if i15 = (6 : Int32) then
        if r75 < (0 : Int32) then
          some (0 : Int32)
        else
          if (255 : Int32) < r75 then
            some (0 : Int32)
          else
            if l7 = l9 then
              if i2 = i4 then
                some (0 : Int32)
              else
                L_law_b622 NF z f k34 ob i2 i3 i4 i15 r75 l7 l9 i11 i12
            else
              L_law_b622 NF z f k34 ob i2 i3 i4 i15 r75 l7 l9 i11 i12
      else
        some (0 : Int32)
  else
    if i15 = t0 then
      L_law_b622 NF z f k34 ob i2 i3 i4 i5 i6 l7 l9 i11 i12
    else
      some (0 : Int32)
set_option maxRecDepth 65536 in
set_option maxHeartbeats 4000000 in
theorem L_law_b542_p {C : Ctx} {sa : Nat} {z : Int32} {f : Int32 → Int32} (hs : ScrF C sa z f) {res : Int32} {NF : Nat} (k34 : Rec → Int32 → Int32 → Int32 → Int32 → Int32 → Int64 → Int64 → Int32 → Int32 → Option (Int32)) (hk34 : ∀ (ob : Rec) (i2 : Int32) (i3 : Int32) (i4 : Int32) (i5 : Int32) (i6 : Int32) (l7 : Int64) (l9 : Int64) (i11 : Int32) (i12 : Int32), k34 ob i2 i3 i4 i5 i6 l7 l9 i11 i12 = some res → Runs C B0 7 218 34 [vr sa, vr C.2.2.1, vi i2, vi i3, vi i4, vi i5, vi i6, vl l7, v2, vl l9, v2, vi i11, vi i12, vn, vn, vn, vn, vn, vn, vn, vn] [] (C.2.2.1 + 1 + 6, (C.2.2.1, 6, ob) :: []) (fun v _ => v = (some (.int res)))) (ob : Rec) (i2 : Int32) (i3 : Int32) (i4 : Int32) (i5 : Int32) (i6 : Int32) (l7 : Int64) (l9 : Int64) (i11 : Int32) (i12 : Int32) (i15 : Int32) (t0 : Int32) (hf : L_law_b542 NF z f k34 ob i2 i3 i4 i5 i6 l7 l9 i11 i12 i15 t0 = some res) : Runs C B0 7 218 542 [vr sa, vr C.2.2.1, vi i2, vi i3, vi i4, vi i5, vi i6, vl l7, v2, vl l9, v2, vi i11, vi i12, vn, vn, vi i15, vn, vn, vn, vn, vn] [.int t0] (C.2.2.1 + 1 + 6, (C.2.2.1, 6, ob) :: []) (fun v _ => v = (some (.int res))) := by
  delta L_law_b542 at hf
  refine Runs.istore (P' := [vr sa, vr C.2.2.1, vi i2, vi i3, vi i4, vi i5, vi i6, vl l7, v2, vl l9, v2, vi i11, vi i12, vn, vn, vi i15, vi t0, vn, vn, vn, vn]) d0_542 (by decide) rfl <| Runs.iload d0_544 rfl <| ?_
  refine ite_el hf (fun hc74 hf => ?_) (fun hc74 hf => ?_)
  · refine Runs.ifY (pc' := 558) d0_546 (teq hc74).1 (by decide) <| ?_
    refine Runs.aloadN d0_558 rfl <| ?_
    refine bind_el hf fun r75 hg76 hf => ?_
    refine Runs.callV (N := B12) (W := 0) (as := []) (S' := []) d0_559 w86 w87 w88 w89 cw12 ar12 rk0_12_0 (by decide) rfl rfl (X_witness_pay hg76) <| ans1 <| Runs.istore (P' := [vr sa, vr C.2.2.1, vi i2, vi i3, vi i4, vi i5, vi i6, vl l7, v2, vl l9, v2, vi i11, vi i12, vn, vn, vi i15, vi t0, vi r75, vn, vn, vn]) d0_562 (by decide) rfl <| Runs.iload d0_564 rfl <| Runs.iconst d0_566 ci_5 <| ?_
    refine ite_el hf (fun hc77 hf => ?_) (fun hc77 hf => ?_)
    · refine Runs.icN d0_567 (teq hc77).2 <| ?_
      refine Runs.iload d0_570 rfl <| Runs.iconst d0_572 ci_m1 <| ?_
      refine ite_el hf (fun hc78 hf => ?_) (fun hc78 hf => ?_)
      · refine Runs.icY (pc' := 614) d0_573 (teq hc78).1 (by decide) <| ?_
        exact Runs.iload d0_614 rfl <| Runs.istore (P' := [vr sa, vr C.2.2.1, vi i2, vi i3, vi i4, vi i15, vi i6, vl l7, v2, vl l9, v2, vi i11, vi i12, vn, vn, vi i15, vi t0, vi r75, vn, vn, vn]) d0_616 (by decide) rfl <| Runs.iload d0_618 rfl <| Runs.istore (P' := [vr sa, vr C.2.2.1, vi i2, vi i3, vi i4, vi i15, vi r75, vl l7, v2, vl l9, v2, vi i11, vi i12, vn, vn, vi i15, vi t0, vi r75, vn, vn, vn]) d0_620 (by decide) rfl <| Runs.forget [true, true, true, true, true, true, true, true, true, true, true, true, true, false, false, false, false, false, false, false, false] rfl <| L_law_b622_p hs k34 hk34 ob i2 i3 i4 i15 r75 l7 l9 i11 i12 hf
      · refine Runs.icN d0_573 (feq hc78).1 <| ?_
        obtain rfl := Option.some.inj hf
        exact Runs.iconst d0_576 ci_0 <| Runs.retZ (y := (0 : Int32)) d0_577 rfl ⟨by decide, by decide⟩ rfl rfl
    · refine Runs.icY (pc' := 578) d0_567 (feq hc77).2 (by decide) <| ?_
      refine Runs.iload d0_578 rfl <| Runs.bipush d0_580 cb_6 <| ?_
      refine ite_el hf (fun hc79 hf => ?_) (fun hc79 hf => ?_)
      · refine Runs.icN d0_582 (teq hc79).2 <| ?_
        refine Runs.iload d0_585 rfl <| ?_
        refine ite_el hf (fun hc80 hf => ?_) (fun hc80 hf => ?_)
        · refine Runs.ifY (pc' := 612) d0_587 (tlt hc80).1 (by decide) <| ?_
          obtain rfl := Option.some.inj hf
          exact Runs.iconst d0_612 ci_0 <| Runs.retZ (y := (0 : Int32)) d0_613 rfl ⟨by decide, by decide⟩ rfl rfl
        · refine Runs.ifN d0_587 (flt hc80).1 <| ?_
          refine Runs.iload d0_590 rfl <| Runs.sipush d0_592 cs_255 <| ?_
          refine ite_el hf (fun hc81 hf => ?_) (fun hc81 hf => ?_)
          · refine Runs.icY (pc' := 612) d0_595 (tlt hc81).2.2.1 (by decide) <| ?_
            obtain rfl := Option.some.inj hf
            exact Runs.iconst d0_612 ci_0 <| Runs.retZ (y := (0 : Int32)) d0_613 rfl ⟨by decide, by decide⟩ rfl rfl
          · refine Runs.icN d0_595 (flt hc81).2.2.1 <| ?_
            refine Runs.lload d0_598 rfl <| Runs.lload d0_600 rfl <| Runs.lcmp d0_602 <| ?_
            refine ite_el hf (fun hc82 hf => ?_) (fun hc82 hf => ?_)
            · refine Runs.ifN d0_603 (teq ((lw_eq _ _).mpr hc82)).2 <| ?_
              refine Runs.iloadN d0_606 rfl <| Runs.iload d0_607 rfl <| ?_
              refine ite_el hf (fun hc83 hf => ?_) (fun hc83 hf => ?_)
              · refine Runs.icN d0_609 (teq hc83).2 <| ?_
                obtain rfl := Option.some.inj hf
                exact Runs.iconst d0_612 ci_0 <| Runs.retZ (y := (0 : Int32)) d0_613 rfl ⟨by decide, by decide⟩ rfl rfl
              · refine Runs.icY (pc' := 614) d0_609 (feq hc83).2 (by decide) <| ?_
                exact Runs.iload d0_614 rfl <| Runs.istore (P' := [vr sa, vr C.2.2.1, vi i2, vi i3, vi i4, vi i15, vi i6, vl l7, v2, vl l9, v2, vi i11, vi i12, vn, vn, vi i15, vi t0, vi r75, vn, vn, vn]) d0_616 (by decide) rfl <| Runs.iload d0_618 rfl <| Runs.istore (P' := [vr sa, vr C.2.2.1, vi i2, vi i3, vi i4, vi i15, vi r75, vl l7, v2, vl l9, v2, vi i11, vi i12, vn, vn, vi i15, vi t0, vi r75, vn, vn, vn]) d0_620 (by decide) rfl <| Runs.forget [true, true, true, true, true, true, true, true, true, true, true, true, true, false, false, false, false, false, false, false, false] rfl <| L_law_b622_p hs k34 hk34 ob i2 i3 i4 i15 r75 l7 l9 i11 i12 hf
            · refine Runs.ifY (pc' := 614) d0_603 (feq (fun u => hc82 ((lw_eq _ _).mp u))).2 (by decide) <| ?_
              exact Runs.iload d0_614 rfl <| Runs.istore (P' := [vr sa, vr C.2.2.1, vi i2, vi i3, vi i4, vi i15, vi i6, vl l7, v2, vl l9, v2, vi i11, vi i12, vn, vn, vi i15, vi t0, vi r75, vn, vn, vn]) d0_616 (by decide) rfl <| Runs.iload d0_618 rfl <| Runs.istore (P' := [vr sa, vr C.2.2.1, vi i2, vi i3, vi i4, vi i15, vi r75, vl l7, v2, vl l9, v2, vi i11, vi i12, vn, vn, vi i15, vi t0, vi r75, vn, vn, vn]) d0_620 (by decide) rfl <| Runs.forget [true, true, true, true, true, true, true, true, true, true, true, true, true, false, false, false, false, false, false, false, false] rfl <| L_law_b622_p hs k34 hk34 ob i2 i3 i4 i15 r75 l7 l9 i11 i12 hf
      · refine Runs.icY (pc' := 612) d0_582 (feq hc79).2 (by decide) <| ?_
        obtain rfl := Option.some.inj hf
        exact Runs.iconst d0_612 ci_0 <| Runs.retZ (y := (0 : Int32)) d0_613 rfl ⟨by decide, by decide⟩ rfl rfl
  · refine Runs.ifN d0_546 (feq hc74).1 <| ?_
    refine Runs.iload d0_549 rfl <| Runs.iload d0_551 rfl <| ?_
    refine ite_el hf (fun hc84 hf => ?_) (fun hc84 hf => ?_)
    · exact Runs.icY (pc' := 622) d0_553 (teq hc84).1 (by decide) <| Runs.forget [true, true, true, true, true, true, true, true, true, true, true, true, true, false, false, false, false, false, false, false, false] rfl <| L_law_b622_p hs k34 hk34 ob i2 i3 i4 i5 i6 l7 l9 i11 i12 hf
    · refine Runs.icN d0_553 (feq hc84).1 <| ?_
      obtain rfl := Option.some.inj hf
      exact Runs.iconst d0_556 ci_0 <| Runs.retZ (y := (0 : Int32)) d0_557 rfl ⟨by decide, by decide⟩ rfl rfl
def L_law_w34 (NF : Nat) (z : Int32) (f : Int32 → Int32) (k34 : Rec → Int32 → Int32 → Int32 → Int32 → Int32 → Int64 → Int64 → Int32 → Int32 → Option (Int32)) (ob : Rec) (i2 : Int32) (i3 : Int32) (i4 : Int32) (i5 : Int32) (i6 : Int32) (l7 : Int64) (l9 : Int64) (i11 : Int32) (i12 : Int32) : Option (Int32) :=
  if (i12 + (1 : Int32)) < z then
    chk z i12 <|
    chk z (i12 + (1 : Int32)) <|
    if (6 : Int32) < ((f i12) &&& (15 : Int32)) then
      if ((f i12) &&& (15 : Int32)) = (7 : Int32) then
        bind2 (X_removeLast ob) fun r6 q7 =>
        if i2 = (0 : Int32) then
          if r6 = (-4 : Int32) then
            L_law_b622 NF z f k34 q7 i2 i3 i4 i5 i6 l7 l9 i11 i12
          else
            some (0 : Int32)
        else
          if r6 = (0 : Int32) then
            (L_ar (((l7.toUInt64 >>> (((4 : Int32) * (i2 + (-1 : Int32))) &&& 0x3f).toInt64.toUInt64).toInt64) &&& (15 : Int64)).toInt32).bind fun r12 =>
            L_law_b622 NF z f k34 q7 (i2 + (-1 : Int32)) (i3 - ((1 : Int32) - r12)) i4 (0 : Int32) (-1 : Int32) (l7 &&& (((15 : Int64) <<< (((4 : Int32) * (i2 + (-1 : Int32))) &&& 0x3f).toInt64) ^^^ (-1 : Int64))) l9 i11 i12
          else
            some (0 : Int32)
      else
        if ((f i12) &&& (15 : Int32)) = (8 : Int32) then
          (X_clear ob).bind fun q15 =>
          L_law_b622 NF z f k34 q15 (0 : Int32) (0 : Int32) i4 (0 : Int32) (-1 : Int32) (0 : Int64) l9 i11 i12
        else
          if (10 : Int32) < ((f i12) &&& (15 : Int32)) then
            if (14 : Int32) < ((f i12) &&& (15 : Int32)) then
              bind2 (X_equivalent NF ob) fun r19 q20 =>
              if i3 = (1 : Int32) then
                if i11 = (0 : Int32) then
                  L_law_b542 NF z f k34 q20 i2 i3 i4 i5 i6 l7 l9 i11 i12 r19 (-6 : Int32)
                else
                  L_law_b542 NF z f k34 q20 i2 i3 i4 i5 i6 l7 l9 i11 i12 r19 (0 : Int32)
              else
                L_law_b542 NF z f k34 q20 i2 i3 i4 i5 i6 l7 l9 i11 i12 r19 (-5 : Int32)
            else
              if (12 : Int32) < ((f i12) &&& (15 : Int32)) then
                L_law_b355 NF z f k34 ob i2 i3 i4 i5 i6 l7 l9 i11 i12 (0 : Int32)
              else
                L_law_b355 NF z f k34 ob i2 i3 i4 i5 i6 l7 l9 i11 i12 (1 : Int32)
          else
            bind2 (X_save NF ob) fun r25 q26 =>
            if i3 = (1 : Int32) then
              if r25 = (0 : Int32) then
                L_law_b622 NF z f k34 q26 i2 i3 i2 (0 : Int32) (-1 : Int32) l7 l7 (1 : Int32) i12
              else
                some (0 : Int32)
            else
              if r25 = (-5 : Int32) then
                L_law_b622 NF z f k34 q26 i2 i3 i4 i5 i6 l7 l9 i11 i12
              else
                some (0 : Int32)
    else
      bind2 (X_pushToken ob (((f (i12 + (1 : Int32))) &&& (65535 : Int32)) % (17 : Int32))) fun r31 q32 =>
      if (15 : Int32) < (((f (i12 + (1 : Int32))) &&& (65535 : Int32)) % (17 : Int32)) then
        L_law_b122 NF z f k34 q32 i2 i3 i4 i5 i6 l7 l9 i11 i12 (((f (i12 + (1 : Int32))) &&& (65535 : Int32)) % (17 : Int32)) r31 (-1 : Int32)
      else
        if i2 = (8 : Int32) then
          L_law_b122 NF z f k34 q32 i2 i3 i4 i5 i6 l7 l9 i11 i12 (((f (i12 + (1 : Int32))) &&& (65535 : Int32)) % (17 : Int32)) r31 (-2 : Int32)
        else
          (L_ar (((f (i12 + (1 : Int32))) &&& (65535 : Int32)) % (17 : Int32))).bind fun r36 =>
          if i3 < r36 then
            L_law_b122 NF z f k34 q32 i2 i3 i4 i5 i6 l7 l9 i11 i12 (((f (i12 + (1 : Int32))) &&& (65535 : Int32)) % (17 : Int32)) r31 (-3 : Int32)
          else
            L_law_b122 NF z f k34 q32 i2 i3 i4 i5 i6 l7 l9 i11 i12 (((f (i12 + (1 : Int32))) &&& (65535 : Int32)) % (17 : Int32)) r31 (0 : Int32)
  else
    some (1 : Int32)
def L_law_l34 (NF : Nat) (z : Int32) (f : Int32 → Int32) : Nat → Rec → Int32 → Int32 → Int32 → Int32 → Int32 → Int64 → Int64 → Int32 → Int32 → Option (Int32)
  | 0, _, _, _, _, _, _, _, _, _, _ => none
  | n + 1, ob, i2, i3, i4, i5, i6, l7, l9, i11, i12 => L_law_w34 NF z f (L_law_l34 NF z f n) ob i2 i3 i4 i5 i6 l7 l9 i11 i12
set_option maxRecDepth 65536 in
set_option maxHeartbeats 4000000 in
theorem L_law_w34_p {C : Ctx} {sa : Nat} {z : Int32} {f : Int32 → Int32} (hs : ScrF C sa z f) {res : Int32} {NF : Nat} (k34 : Rec → Int32 → Int32 → Int32 → Int32 → Int32 → Int64 → Int64 → Int32 → Int32 → Option (Int32)) (hk34 : ∀ (ob : Rec) (i2 : Int32) (i3 : Int32) (i4 : Int32) (i5 : Int32) (i6 : Int32) (l7 : Int64) (l9 : Int64) (i11 : Int32) (i12 : Int32), k34 ob i2 i3 i4 i5 i6 l7 l9 i11 i12 = some res → Runs C B0 7 218 34 [vr sa, vr C.2.2.1, vi i2, vi i3, vi i4, vi i5, vi i6, vl l7, v2, vl l9, v2, vi i11, vi i12, vn, vn, vn, vn, vn, vn, vn, vn] [] (C.2.2.1 + 1 + 6, (C.2.2.1, 6, ob) :: []) (fun v _ => v = (some (.int res)))) (ob : Rec) (i2 : Int32) (i3 : Int32) (i4 : Int32) (i5 : Int32) (i6 : Int32) (l7 : Int64) (l9 : Int64) (i11 : Int32) (i12 : Int32) (hf : L_law_w34 NF z f k34 ob i2 i3 i4 i5 i6 l7 l9 i11 i12 = some res) : Runs C B0 7 218 34 [vr sa, vr C.2.2.1, vi i2, vi i3, vi i4, vi i5, vi i6, vl l7, v2, vl l9, v2, vi i11, vi i12, vn, vn, vn, vn, vn, vn, vn, vn] [] (C.2.2.1 + 1 + 6, (C.2.2.1, 6, ob) :: []) (fun v _ => v = (some (.int res))) := by
  delta L_law_w34 at hf
  refine Runs.iload d0_34 rfl <| Runs.iconst d0_36 ci_1 <| Runs.iadd d0_37 <| Runs.aloadN d0_38 rfl <| Runs.lenS hs d0_39 <| ?_
  refine ite_el hf (fun hc1 hf => ?_) (fun hc1 hf => ?_)
  · refine Runs.icN d0_40 (tlt hc1).2.1 <| ?_
    refine Runs.aloadN d0_43 rfl <| Runs.iload d0_44 rfl <| ?_
    refine chk_el hf fun hi2 hf => ?_
    refine Runs.ialoadS hs d0_46 hi2 <| Runs.bipush d0_47 cb_15 <| Runs.iand d0_49 <| Runs.istore (P' := [vr sa, vr C.2.2.1, vi i2, vi i3, vi i4, vi i5, vi i6, vl l7, v2, vl l9, v2, vi i11, vi i12, vi ((f i12) &&& (15 : Int32)), vn, vn, vn, vn, vn, vn, vn]) d0_50 (by decide) rfl <| Runs.aloadN d0_52 rfl <| Runs.iload d0_53 rfl <| Runs.iconst d0_55 ci_1 <| Runs.iadd d0_56 <| ?_
    refine chk_el hf fun hi3 hf => ?_
    refine Runs.ialoadS hs d0_57 hi3 <| Runs.ldc d0_58 w43 <| Runs.iand d0_60 <| Runs.istore (P' := [vr sa, vr C.2.2.1, vi i2, vi i3, vi i4, vi i5, vi i6, vl l7, v2, vl l9, v2, vi i11, vi i12, vi ((f i12) &&& (15 : Int32)), vi ((f (i12 + (1 : Int32))) &&& (65535 : Int32)), vn, vn, vn, vn, vn, vn]) d0_61 (by decide) rfl <| Runs.iload d0_63 rfl <| Runs.bipush d0_65 cb_6 <| ?_
    refine ite_el hf (fun hc4 hf => ?_) (fun hc4 hf => ?_)
    · refine Runs.icY (pc' := 172) d0_67 (tlt hc4).2.2.1 (by decide) <| ?_
      refine Runs.iload d0_172 rfl <| Runs.bipush d0_174 cb_7 <| ?_
      refine ite_el hf (fun hc5 hf => ?_) (fun hc5 hf => ?_)
      · refine Runs.icN d0_176 (teq hc5).2 <| ?_
        refine Runs.aloadN d0_179 rfl <| ?_
        refine bind2_el hf fun r6 q7 hg8 hf => ?_
        refine Runs.callV (N := B17) (W := 0) (as := []) (S' := []) d0_180 w110 w111 w112 w113 cw17 ar17 rk0_17_0 (by decide) rfl rfl (X_removeLast_pay hg8) <| ans1 <| Runs.istore (P' := [vr sa, vr C.2.2.1, vi i2, vi i3, vi i4, vi i5, vi i6, vl l7, v2, vl l9, v2, vi i11, vi i12, vi ((f i12) &&& (15 : Int32)), vi ((f (i12 + (1 : Int32))) &&& (65535 : Int32)), vi r6, vn, vn, vn, vn, vn]) d0_183 (by decide) rfl <| Runs.iloadN d0_185 rfl <| ?_
        refine ite_el hf (fun hc9 hf => ?_) (fun hc9 hf => ?_)
        · refine Runs.ifN d0_186 (teq hc9).2 <| ?_
          refine Runs.iload d0_189 rfl <| Runs.bipush d0_191 cb_m4 <| ?_
          refine ite_el hf (fun hc10 hf => ?_) (fun hc10 hf => ?_)
          · refine Runs.icY (pc' := 253) d0_193 (teq hc10).1 (by decide) <| ?_
            exact Runs.goto (pc' := 622) d0_253 (by decide) <| Runs.forget [true, true, true, true, true, true, true, true, true, true, true, true, true, false, false, false, false, false, false, false, false] rfl <| L_law_b622_p hs k34 hk34 q7 i2 i3 i4 i5 i6 l7 l9 i11 i12 hf
          · refine Runs.icN d0_193 (feq hc10).1 <| ?_
            obtain rfl := Option.some.inj hf
            exact Runs.iconst d0_196 ci_0 <| Runs.retZ (y := (0 : Int32)) d0_197 rfl ⟨by decide, by decide⟩ rfl rfl
        · refine Runs.ifY (pc' := 198) d0_186 (feq hc9).2 (by decide) <| ?_
          refine Runs.iload d0_198 rfl <| ?_
          refine ite_el hf (fun hc11 hf => ?_) (fun hc11 hf => ?_)
          · refine Runs.ifY (pc' := 205) d0_200 (teq hc11).1 (by decide) <| ?_
            refine Runs.iinc (P' := [vr sa, vr C.2.2.1, vi (i2 + (-1 : Int32)), vi i3, vi i4, vi i5, vi i6, vl l7, v2, vl l9, v2, vi i11, vi i12, vi ((f i12) &&& (15 : Int32)), vi ((f (i12 + (1 : Int32))) &&& (65535 : Int32)), vi r6, vn, vn, vn, vn, vn]) d0_205 ci_m1 rfl (by decide) rfl <| Runs.lload d0_208 rfl <| Runs.iconst d0_210 ci_4 <| Runs.iloadN d0_211 rfl <| Runs.imul d0_212 <| Runs.lushr d0_213 <| Runs.ldc2 d0_214 w99 <| Runs.land d0_217 <| Runs.l2i d0_218 <| Runs.istore (P' := [vr sa, vr C.2.2.1, vi (i2 + (-1 : Int32)), vi i3, vi i4, vi i5, vi i6, vl l7, v2, vl l9, v2, vi i11, vi i12, vi ((f i12) &&& (15 : Int32)), vi ((f (i12 + (1 : Int32))) &&& (65535 : Int32)), vi r6, vi (((l7.toUInt64 >>> (((4 : Int32) * (i2 + (-1 : Int32))) &&& 0x3f).toInt64.toUInt64).toInt64) &&& (15 : Int64)).toInt32, vn, vn, vn, vn]) d0_219 (by decide) rfl <| Runs.lload d0_221 rfl <| Runs.ldc2 d0_223 w99 <| ?_
            refine Runs.iconst d0_226 ci_4 <| Runs.iloadN d0_227 rfl <| Runs.imul d0_228 <| Runs.lshl d0_229 <| Runs.ldc2 d0_230 w158 <| Runs.lxor d0_233 <| Runs.land d0_234 <| Runs.lstore (P' := [vr sa, vr C.2.2.1, vi (i2 + (-1 : Int32)), vi i3, vi i4, vi i5, vi i6, vl (l7 &&& (((15 : Int64) <<< (((4 : Int32) * (i2 + (-1 : Int32))) &&& 0x3f).toInt64) ^^^ (-1 : Int64))), v2, vl l9, v2, vi i11, vi i12, vi ((f i12) &&& (15 : Int32)), vi ((f (i12 + (1 : Int32))) &&& (65535 : Int32)), vi r6, vi (((l7.toUInt64 >>> (((4 : Int32) * (i2 + (-1 : Int32))) &&& 0x3f).toInt64.toUInt64).toInt64) &&& (15 : Int64)).toInt32, vn, vn, vn, vn]) d0_235 (by decide) rfl <| Runs.iloadN d0_237 rfl <| Runs.iconst d0_238 ci_1 <| Runs.iload d0_239 rfl <| ?_
            refine bind_el hf fun r12 hg13 hf => ?_
            exact Runs.callS (N := B5) (W := 2) (as := [.int (((l7.toUInt64 >>> (((4 : Int32) * (i2 + (-1 : Int32))) &&& 0x3f).toInt64.toUInt64).toInt64) &&& (15 : Int64)).toInt32]) (S' := [.int (1 : Int32), .int i3]) d0_241 w53 w54 cw5 ar5 rk0_5_2 (by decide) rfl rfl (L_ar_pay hg13) <| ans1 <| Runs.isub d0_244 <| Runs.isub d0_245 <| Runs.istoreN (P' := [vr sa, vr C.2.2.1, vi (i2 + (-1 : Int32)), vi (i3 - ((1 : Int32) - r12)), vi i4, vi i5, vi i6, vl (l7 &&& (((15 : Int64) <<< (((4 : Int32) * (i2 + (-1 : Int32))) &&& 0x3f).toInt64) ^^^ (-1 : Int64))), v2, vl l9, v2, vi i11, vi i12, vi ((f i12) &&& (15 : Int32)), vi ((f (i12 + (1 : Int32))) &&& (65535 : Int32)), vi r6, vi (((l7.toUInt64 >>> (((4 : Int32) * (i2 + (-1 : Int32))) &&& 0x3f).toInt64.toUInt64).toInt64) &&& (15 : Int64)).toInt32, vn, vn, vn, vn]) d0_246 (by decide) rfl <| Runs.iconst d0_247 ci_0 <| Runs.istore (P' := [vr sa, vr C.2.2.1, vi (i2 + (-1 : Int32)), vi (i3 - ((1 : Int32) - r12)), vi i4, vi (0 : Int32), vi i6, vl (l7 &&& (((15 : Int64) <<< (((4 : Int32) * (i2 + (-1 : Int32))) &&& 0x3f).toInt64) ^^^ (-1 : Int64))), v2, vl l9, v2, vi i11, vi i12, vi ((f i12) &&& (15 : Int32)), vi ((f (i12 + (1 : Int32))) &&& (65535 : Int32)), vi r6, vi (((l7.toUInt64 >>> (((4 : Int32) * (i2 + (-1 : Int32))) &&& 0x3f).toInt64.toUInt64).toInt64) &&& (15 : Int64)).toInt32, vn, vn, vn, vn]) d0_248 (by decide) rfl <| Runs.iconst d0_250 ci_m1 <| Runs.istore (P' := [vr sa, vr C.2.2.1, vi (i2 + (-1 : Int32)), vi (i3 - ((1 : Int32) - r12)), vi i4, vi (0 : Int32), vi (-1 : Int32), vl (l7 &&& (((15 : Int64) <<< (((4 : Int32) * (i2 + (-1 : Int32))) &&& 0x3f).toInt64) ^^^ (-1 : Int64))), v2, vl l9, v2, vi i11, vi i12, vi ((f i12) &&& (15 : Int32)), vi ((f (i12 + (1 : Int32))) &&& (65535 : Int32)), vi r6, vi (((l7.toUInt64 >>> (((4 : Int32) * (i2 + (-1 : Int32))) &&& 0x3f).toInt64.toUInt64).toInt64) &&& (15 : Int64)).toInt32, vn, vn, vn, vn]) d0_251 (by decide) rfl <| Runs.goto (pc' := 622) d0_253 (by decide) <| Runs.forget [true, true, true, true, true, true, true, true, true, true, true, true, true, false, false, false, false, false, false, false, false] rfl <| L_law_b622_p hs k34 hk34 q7 (i2 + (-1 : Int32)) (i3 - ((1 : Int32) - r12)) i4 (0 : Int32) (-1 : Int32) (l7 &&& (((15 : Int64) <<< (((4 : Int32) * (i2 + (-1 : Int32))) &&& 0x3f).toInt64) ^^^ (-1 : Int64))) l9 i11 i12 hf
          · refine Runs.ifN d0_200 (feq hc11).1 <| ?_
            obtain rfl := Option.some.inj hf
            exact Runs.iconst d0_203 ci_0 <| Runs.retZ (y := (0 : Int32)) d0_204 rfl ⟨by decide, by decide⟩ rfl rfl
      · refine Runs.icY (pc' := 256) d0_176 (feq hc5).2 (by decide) <| ?_
        refine Runs.iload d0_256 rfl <| Runs.bipush d0_258 cb_8 <| ?_
        refine ite_el hf (fun hc14 hf => ?_) (fun hc14 hf => ?_)
        · refine Runs.icN d0_260 (teq hc14).2 <| ?_
          refine Runs.aloadN d0_263 rfl <| ?_
          refine bind_el hf fun q15 hg16 hf => ?_
          refine Runs.callV (N := B16) (W := 0) (as := []) (S' := []) d0_264 w105 w106 w107 w108 cw16 ar16 rk0_16_0 (by decide) rfl rfl (X_clear_pay hg16) <| ans0 <| Runs.iconst d0_267 ci_0 <| Runs.istoreN (P' := [vr sa, vr C.2.2.1, vi (0 : Int32), vi i3, vi i4, vi i5, vi i6, vl l7, v2, vl l9, v2, vi i11, vi i12, vi ((f i12) &&& (15 : Int32)), vi ((f (i12 + (1 : Int32))) &&& (65535 : Int32)), vn, vn, vn, vn, vn, vn]) d0_268 (by decide) rfl <| Runs.iconst d0_269 ci_0 <| Runs.istoreN (P' := [vr sa, vr C.2.2.1, vi (0 : Int32), vi (0 : Int32), vi i4, vi i5, vi i6, vl l7, v2, vl l9, v2, vi i11, vi i12, vi ((f i12) &&& (15 : Int32)), vi ((f (i12 + (1 : Int32))) &&& (65535 : Int32)), vn, vn, vn, vn, vn, vn]) d0_270 (by decide) rfl <| Runs.lconst d0_271 cl_0 <| Runs.lstore (P' := [vr sa, vr C.2.2.1, vi (0 : Int32), vi (0 : Int32), vi i4, vi i5, vi i6, vl (0 : Int64), v2, vl l9, v2, vi i11, vi i12, vi ((f i12) &&& (15 : Int32)), vi ((f (i12 + (1 : Int32))) &&& (65535 : Int32)), vn, vn, vn, vn, vn, vn]) d0_272 (by decide) rfl <| Runs.iconst d0_274 ci_0 <| Runs.istore (P' := [vr sa, vr C.2.2.1, vi (0 : Int32), vi (0 : Int32), vi i4, vi (0 : Int32), vi i6, vl (0 : Int64), v2, vl l9, v2, vi i11, vi i12, vi ((f i12) &&& (15 : Int32)), vi ((f (i12 + (1 : Int32))) &&& (65535 : Int32)), vn, vn, vn, vn, vn, vn]) d0_275 (by decide) rfl <| Runs.iconst d0_277 ci_m1 <| Runs.istore (P' := [vr sa, vr C.2.2.1, vi (0 : Int32), vi (0 : Int32), vi i4, vi (0 : Int32), vi (-1 : Int32), vl (0 : Int64), v2, vl l9, v2, vi i11, vi i12, vi ((f i12) &&& (15 : Int32)), vi ((f (i12 + (1 : Int32))) &&& (65535 : Int32)), vn, vn, vn, vn, vn, vn]) d0_278 (by decide) rfl <| Runs.goto (pc' := 622) d0_280 (by decide) <| ?_
          exact Runs.forget [true, true, true, true, true, true, true, true, true, true, true, true, true, false, false, false, false, false, false, false, false] rfl <| L_law_b622_p hs k34 hk34 q15 (0 : Int32) (0 : Int32) i4 (0 : Int32) (-1 : Int32) (0 : Int64) l9 i11 i12 hf
        · refine Runs.icY (pc' := 283) d0_260 (feq hc14).2 (by decide) <| ?_
          refine Runs.iload d0_283 rfl <| Runs.bipush d0_285 cb_10 <| ?_
          refine ite_el hf (fun hc17 hf => ?_) (fun hc17 hf => ?_)
          · refine Runs.icY (pc' := 336) d0_287 (tlt hc17).2.2.1 (by decide) <| ?_
            refine Runs.iload d0_336 rfl <| Runs.bipush d0_338 cb_14 <| ?_
            refine ite_el hf (fun hc18 hf => ?_) (fun hc18 hf => ?_)
            · refine Runs.icY (pc' := 515) d0_340 (tlt hc18).2.2.1 (by decide) <| ?_
              refine Runs.aloadN d0_515 rfl <| ?_
              refine bind2_el hf fun r19 q20 hg21 hf => ?_
              refine Runs.callV (N := B28) (W := 0) (as := []) (S' := []) d0_516 w159 w160 w161 w162 cw28 ar28 rk0_28_0 (by decide) rfl rfl (X_equivalent_pay hg21) <| ans1 <| Runs.istore (P' := [vr sa, vr C.2.2.1, vi i2, vi i3, vi i4, vi i5, vi i6, vl l7, v2, vl l9, v2, vi i11, vi i12, vi ((f i12) &&& (15 : Int32)), vi ((f (i12 + (1 : Int32))) &&& (65535 : Int32)), vi r19, vn, vn, vn, vn, vn]) d0_519 (by decide) rfl <| Runs.iloadN d0_521 rfl <| Runs.iconst d0_522 ci_1 <| ?_
              refine ite_el hf (fun hc22 hf => ?_) (fun hc22 hf => ?_)
              · refine Runs.icY (pc' := 531) d0_523 (teq hc22).1 (by decide) <| ?_
                refine Runs.iload d0_531 rfl <| ?_
                refine ite_el hf (fun hc23 hf => ?_) (fun hc23 hf => ?_)
                · refine Runs.ifN d0_533 (teq hc23).2 <| ?_
                  exact Runs.bipush d0_536 cb_m6 <| Runs.goto (pc' := 542) d0_538 (by decide) <| Runs.forget [true, true, true, true, true, true, true, true, true, true, true, true, true, false, false, true, false, false, false, false, false] rfl <| L_law_b542_p hs k34 hk34 q20 i2 i3 i4 i5 i6 l7 l9 i11 i12 r19 (-6 : Int32) hf
                · refine Runs.ifY (pc' := 541) d0_533 (feq hc23).2 (by decide) <| ?_
                  exact Runs.iconst d0_541 ci_0 <| Runs.forget [true, true, true, true, true, true, true, true, true, true, true, true, true, false, false, true, false, false, false, false, false] rfl <| L_law_b542_p hs k34 hk34 q20 i2 i3 i4 i5 i6 l7 l9 i11 i12 r19 (0 : Int32) hf
              · refine Runs.icN d0_523 (feq hc22).1 <| ?_
                exact Runs.bipush d0_526 cb_m5 <| Runs.goto (pc' := 542) d0_528 (by decide) <| Runs.forget [true, true, true, true, true, true, true, true, true, true, true, true, true, false, false, true, false, false, false, false, false] rfl <| L_law_b542_p hs k34 hk34 q20 i2 i3 i4 i5 i6 l7 l9 i11 i12 r19 (-5 : Int32) hf
            · refine Runs.icN d0_340 (flt hc18).2.2.1 <| ?_
              refine Runs.iload d0_343 rfl <| Runs.bipush d0_345 cb_12 <| ?_
              refine ite_el hf (fun hc24 hf => ?_) (fun hc24 hf => ?_)
              · refine Runs.icY (pc' := 354) d0_347 (tlt hc24).2.2.1 (by decide) <| ?_
                exact Runs.iconst d0_354 ci_0 <| Runs.forget [true, true, true, true, true, true, true, true, true, true, true, true, true, false, false, false, false, false, false, false, false] rfl <| L_law_b355_p hs k34 hk34 ob i2 i3 i4 i5 i6 l7 l9 i11 i12 (0 : Int32) hf
              · refine Runs.icN d0_347 (flt hc24).2.2.1 <| ?_
                exact Runs.iconst d0_350 ci_1 <| Runs.goto (pc' := 355) d0_351 (by decide) <| Runs.forget [true, true, true, true, true, true, true, true, true, true, true, true, true, false, false, false, false, false, false, false, false] rfl <| L_law_b355_p hs k34 hk34 ob i2 i3 i4 i5 i6 l7 l9 i11 i12 (1 : Int32) hf
          · refine Runs.icN d0_287 (flt hc17).2.2.1 <| ?_
            refine Runs.aloadN d0_290 rfl <| ?_
            refine bind2_el hf fun r25 q26 hg27 hf => ?_
            refine Runs.callV (N := B19) (W := 0) (as := []) (S' := []) d0_291 w120 w121 w122 w123 cw19 ar19 rk0_19_0 (by decide) rfl rfl (X_save_pay hg27) <| ans1 <| Runs.istore (P' := [vr sa, vr C.2.2.1, vi i2, vi i3, vi i4, vi i5, vi i6, vl l7, v2, vl l9, v2, vi i11, vi i12, vi ((f i12) &&& (15 : Int32)), vi ((f (i12 + (1 : Int32))) &&& (65535 : Int32)), vi r25, vn, vn, vn, vn, vn]) d0_294 (by decide) rfl <| Runs.iloadN d0_296 rfl <| Runs.iconst d0_297 ci_1 <| ?_
            refine ite_el hf (fun hc28 hf => ?_) (fun hc28 hf => ?_)
            · refine Runs.icY (pc' := 310) d0_298 (teq hc28).1 (by decide) <| ?_
              refine Runs.iload d0_310 rfl <| ?_
              refine ite_el hf (fun hc29 hf => ?_) (fun hc29 hf => ?_)
              · refine Runs.ifY (pc' := 317) d0_312 (teq hc29).1 (by decide) <| ?_
                exact Runs.lload d0_317 rfl <| Runs.lstore (P' := [vr sa, vr C.2.2.1, vi i2, vi i3, vi i4, vi i5, vi i6, vl l7, v2, vl l7, v2, vi i11, vi i12, vi ((f i12) &&& (15 : Int32)), vi ((f (i12 + (1 : Int32))) &&& (65535 : Int32)), vi r25, vn, vn, vn, vn, vn]) d0_319 (by decide) rfl <| Runs.iloadN d0_321 rfl <| Runs.istore (P' := [vr sa, vr C.2.2.1, vi i2, vi i3, vi i2, vi i5, vi i6, vl l7, v2, vl l7, v2, vi i11, vi i12, vi ((f i12) &&& (15 : Int32)), vi ((f (i12 + (1 : Int32))) &&& (65535 : Int32)), vi r25, vn, vn, vn, vn, vn]) d0_322 (by decide) rfl <| Runs.iconst d0_324 ci_1 <| Runs.istore (P' := [vr sa, vr C.2.2.1, vi i2, vi i3, vi i2, vi i5, vi i6, vl l7, v2, vl l7, v2, vi (1 : Int32), vi i12, vi ((f i12) &&& (15 : Int32)), vi ((f (i12 + (1 : Int32))) &&& (65535 : Int32)), vi r25, vn, vn, vn, vn, vn]) d0_325 (by decide) rfl <| Runs.iconst d0_327 ci_0 <| Runs.istore (P' := [vr sa, vr C.2.2.1, vi i2, vi i3, vi i2, vi (0 : Int32), vi i6, vl l7, v2, vl l7, v2, vi (1 : Int32), vi i12, vi ((f i12) &&& (15 : Int32)), vi ((f (i12 + (1 : Int32))) &&& (65535 : Int32)), vi r25, vn, vn, vn, vn, vn]) d0_328 (by decide) rfl <| Runs.iconst d0_330 ci_m1 <| Runs.istore (P' := [vr sa, vr C.2.2.1, vi i2, vi i3, vi i2, vi (0 : Int32), vi (-1 : Int32), vl l7, v2, vl l7, v2, vi (1 : Int32), vi i12, vi ((f i12) &&& (15 : Int32)), vi ((f (i12 + (1 : Int32))) &&& (65535 : Int32)), vi r25, vn, vn, vn, vn, vn]) d0_331 (by decide) rfl <| Runs.goto (pc' := 622) d0_333 (by decide) <| Runs.forget [true, true, true, true, true, true, true, true, true, true, true, true, true, false, false, false, false, false, false, false, false] rfl <| L_law_b622_p hs k34 hk34 q26 i2 i3 i2 (0 : Int32) (-1 : Int32) l7 l7 (1 : Int32) i12 hf
              · refine Runs.ifN d0_312 (feq hc29).1 <| ?_
                obtain rfl := Option.some.inj hf
                exact Runs.iconst d0_315 ci_0 <| Runs.retZ (y := (0 : Int32)) d0_316 rfl ⟨by decide, by decide⟩ rfl rfl
            · refine Runs.icN d0_298 (feq hc28).1 <| ?_
              refine Runs.iload d0_301 rfl <| Runs.bipush d0_303 cb_m5 <| ?_
              refine ite_el hf (fun hc30 hf => ?_) (fun hc30 hf => ?_)
              · refine Runs.icY (pc' := 333) d0_305 (teq hc30).1 (by decide) <| ?_
                exact Runs.goto (pc' := 622) d0_333 (by decide) <| Runs.forget [true, true, true, true, true, true, true, true, true, true, true, true, true, false, false, false, false, false, false, false, false] rfl <| L_law_b622_p hs k34 hk34 q26 i2 i3 i4 i5 i6 l7 l9 i11 i12 hf
              · refine Runs.icN d0_305 (feq hc30).1 <| ?_
                obtain rfl := Option.some.inj hf
                exact Runs.iconst d0_308 ci_0 <| Runs.retZ (y := (0 : Int32)) d0_309 rfl ⟨by decide, by decide⟩ rfl rfl
    · refine Runs.icN d0_67 (flt hc4).2.2.1 <| ?_
      refine Runs.iload d0_70 rfl <| Runs.bipush d0_72 cb_17 <| Runs.irem d0_74 (by decide) <| Runs.istore (P' := [vr sa, vr C.2.2.1, vi i2, vi i3, vi i4, vi i5, vi i6, vl l7, v2, vl l9, v2, vi i11, vi i12, vi ((f i12) &&& (15 : Int32)), vi ((f (i12 + (1 : Int32))) &&& (65535 : Int32)), vi (((f (i12 + (1 : Int32))) &&& (65535 : Int32)) % (17 : Int32)), vn, vn, vn, vn, vn]) d0_75 (by decide) rfl <| Runs.aloadN d0_77 rfl <| Runs.iload d0_78 rfl <| ?_
      refine bind2_el hf fun r31 q32 hg33 hf => ?_
      refine Runs.callV (N := B3) (W := 0) (as := [.int (((f (i12 + (1 : Int32))) &&& (65535 : Int32)) % (17 : Int32))]) (S' := []) d0_80 w44 w45 w46 w47 cw3 ar3 rk0_3_0 (by decide) rfl rfl (X_pushToken_pay hg33) <| ans1 <| Runs.istore (P' := [vr sa, vr C.2.2.1, vi i2, vi i3, vi i4, vi i5, vi i6, vl l7, v2, vl l9, v2, vi i11, vi i12, vi ((f i12) &&& (15 : Int32)), vi ((f (i12 + (1 : Int32))) &&& (65535 : Int32)), vi (((f (i12 + (1 : Int32))) &&& (65535 : Int32)) % (17 : Int32)), vi r31, vn, vn, vn, vn]) d0_83 (by decide) rfl <| Runs.iload d0_85 rfl <| Runs.bipush d0_87 cb_15 <| ?_
      refine ite_el hf (fun hc34 hf => ?_) (fun hc34 hf => ?_)
      · refine Runs.icN d0_89 (tlt hc34).2.2.2 <| ?_
        exact Runs.iconst d0_92 ci_m1 <| Runs.goto (pc' := 122) d0_93 (by decide) <| Runs.forget [true, true, true, true, true, true, true, true, true, true, true, true, true, false, false, true, true, false, false, false, false] rfl <| L_law_b122_p hs k34 hk34 q32 i2 i3 i4 i5 i6 l7 l9 i11 i12 (((f (i12 + (1 : Int32))) &&& (65535 : Int32)) % (17 : Int32)) r31 (-1 : Int32) hf
      · refine Runs.icY (pc' := 96) d0_89 (flt hc34).2.2.2 (by decide) <| ?_
        refine Runs.iloadN d0_96 rfl <| Runs.bipush d0_97 cb_8 <| ?_
        refine ite_el hf (fun hc35 hf => ?_) (fun hc35 hf => ?_)
        · refine Runs.icN d0_99 (teq hc35).2 <| ?_
          exact Runs.bipush d0_102 cb_m2 <| Runs.goto (pc' := 122) d0_104 (by decide) <| Runs.forget [true, true, true, true, true, true, true, true, true, true, true, true, true, false, false, true, true, false, false, false, false] rfl <| L_law_b122_p hs k34 hk34 q32 i2 i3 i4 i5 i6 l7 l9 i11 i12 (((f (i12 + (1 : Int32))) &&& (65535 : Int32)) % (17 : Int32)) r31 (-2 : Int32) hf
        · refine Runs.icY (pc' := 107) d0_99 (feq hc35).2 (by decide) <| ?_
          refine Runs.iload d0_107 rfl <| ?_
          refine bind_el hf fun r36 hg37 hf => ?_
          refine Runs.callS (N := B5) (W := 0) (as := [.int (((f (i12 + (1 : Int32))) &&& (65535 : Int32)) % (17 : Int32))]) (S' := []) d0_109 w53 w54 cw5 ar5 rk0_5_0 (by decide) rfl rfl (L_ar_pay hg37) <| ans1 <| Runs.iloadN d0_112 rfl <| ?_
          refine ite_el hf (fun hc38 hf => ?_) (fun hc38 hf => ?_)
          · refine Runs.icN d0_113 (tlt hc38).2.2.2 <| ?_
            exact Runs.bipush d0_116 cb_m3 <| Runs.goto (pc' := 122) d0_118 (by decide) <| Runs.forget [true, true, true, true, true, true, true, true, true, true, true, true, true, false, false, true, true, false, false, false, false] rfl <| L_law_b122_p hs k34 hk34 q32 i2 i3 i4 i5 i6 l7 l9 i11 i12 (((f (i12 + (1 : Int32))) &&& (65535 : Int32)) % (17 : Int32)) r31 (-3 : Int32) hf
          · refine Runs.icY (pc' := 121) d0_113 (flt hc38).2.2.2 (by decide) <| ?_
            exact Runs.iconst d0_121 ci_0 <| Runs.forget [true, true, true, true, true, true, true, true, true, true, true, true, true, false, false, true, true, false, false, false, false] rfl <| L_law_b122_p hs k34 hk34 q32 i2 i3 i4 i5 i6 l7 l9 i11 i12 (((f (i12 + (1 : Int32))) &&& (65535 : Int32)) % (17 : Int32)) r31 (0 : Int32) hf
  · refine Runs.icY (pc' := 747) d0_40 (flt hc1).2.1 (by decide) <| ?_
    obtain rfl := Option.some.inj hf
    exact Runs.iconst d0_747 ci_1 <| Runs.retZ (y := (1 : Int32)) d0_748 rfl ⟨by decide, by decide⟩ rfl rfl
theorem L_law_l34_p {C : Ctx} {sa : Nat} {z : Int32} {f : Int32 → Int32} (hs : ScrF C sa z f) {res : Int32} {NF : Nat} (n : Nat) (ob : Rec) (i2 : Int32) (i3 : Int32) (i4 : Int32) (i5 : Int32) (i6 : Int32) (l7 : Int64) (l9 : Int64) (i11 : Int32) (i12 : Int32) (hf : L_law_l34 NF z f n ob i2 i3 i4 i5 i6 l7 l9 i11 i12 = some res) : Runs C B0 7 218 34 [vr sa, vr C.2.2.1, vi i2, vi i3, vi i4, vi i5, vi i6, vl l7, v2, vl l9, v2, vi i11, vi i12, vn, vn, vn, vn, vn, vn, vn, vn] [] (C.2.2.1 + 1 + 6, (C.2.2.1, 6, ob) :: []) (fun v _ => v = (some (.int res))) := by
  induction n generalizing ob i2 i3 i4 i5 i6 l7 l9 i11 i12 with
  | zero => cases (show (none : Option (Int32)) = some res from hf)
  | succ n ih => exact L_law_w34_p hs (L_law_l34 NF z f n) (fun ob i2 i3 i4 i5 i6 l7 l9 i11 i12 h => ih _ _ _ _ _ _ _ _ _ _ h) ob i2 i3 i4 i5 i6 l7 l9 i11 i12 hf
def L_law (NF : Nat) (z : Int32) (f : Int32 → Int32) : Option (Int32) :=
  (X_init (3 : Int32)).bind fun q116 =>
  L_law_l34 NF z f NF q116 (0 : Int32) (0 : Int32) (0 : Int32) (0 : Int32) (-1 : Int32) (0 : Int64) (0 : Int64) (0 : Int32) (0 : Int32)
set_option maxRecDepth 65536 in
set_option maxHeartbeats 4000000 in
theorem L_law_p {C : Ctx} {sa : Nat} {z : Int32} {f : Int32 → Int32} (hs : ScrF C sa z f) {res : Int32} {NF : Nat} (hf : L_law NF z f = some res) : Runs C B0 0 0 0 [vr sa, vn, vn, vn, vn, vn, vn, vn, vn, vn, vn, vn, vn, vn, vn, vn, vn, vn, vn, vn, vn] [] (C.2.2.1, []) (fun v _ => v = (some (.int res))) := by
  delta L_law at hf
  refine Runs.newK (k' := 1) (n' := 14) d0_0 w0 ⟨by decide, by decide⟩ rfl rfl (by intro x hx; cases hx) <| Runs.dup d0_3 rfl <| Runs.iconst d0_4 ci_3 <| ?_
  refine bind_el hf fun q116 hg117 hf => ?_
  refine Runs.callI (N := B1) (k' := 7) (n' := 218) (W := 1) (as := [.int (3 : Int32)]) (S' := [.ref C.2.2.1]) d0_5 rfl rfl w3 w4 cw1 ar1 (by decide) rfl rfl rfl rfl (X_init_pay hg117) <| ans0 <| Runs.astoreN (P' := [vr sa, vr C.2.2.1, vn, vn, vn, vn, vn, vn, vn, vn, vn, vn, vn, vn, vn, vn, vn, vn, vn, vn, vn]) d0_8 (by decide) rfl <| Runs.iconst d0_9 ci_0 <| Runs.istoreN (P' := [vr sa, vr C.2.2.1, vi (0 : Int32), vn, vn, vn, vn, vn, vn, vn, vn, vn, vn, vn, vn, vn, vn, vn, vn, vn, vn]) d0_10 (by decide) rfl <| Runs.iconst d0_11 ci_0 <| Runs.istoreN (P' := [vr sa, vr C.2.2.1, vi (0 : Int32), vi (0 : Int32), vn, vn, vn, vn, vn, vn, vn, vn, vn, vn, vn, vn, vn, vn, vn, vn, vn]) d0_12 (by decide) rfl <| Runs.iconst d0_13 ci_0 <| Runs.istore (P' := [vr sa, vr C.2.2.1, vi (0 : Int32), vi (0 : Int32), vi (0 : Int32), vn, vn, vn, vn, vn, vn, vn, vn, vn, vn, vn, vn, vn, vn, vn, vn]) d0_14 (by decide) rfl <| Runs.iconst d0_16 ci_0 <| Runs.istore (P' := [vr sa, vr C.2.2.1, vi (0 : Int32), vi (0 : Int32), vi (0 : Int32), vi (0 : Int32), vn, vn, vn, vn, vn, vn, vn, vn, vn, vn, vn, vn, vn, vn, vn]) d0_17 (by decide) rfl <| Runs.iconst d0_19 ci_m1 <| Runs.istore (P' := [vr sa, vr C.2.2.1, vi (0 : Int32), vi (0 : Int32), vi (0 : Int32), vi (0 : Int32), vi (-1 : Int32), vn, vn, vn, vn, vn, vn, vn, vn, vn, vn, vn, vn, vn, vn]) d0_20 (by decide) rfl <| ?_
  exact Runs.lconst d0_22 cl_0 <| Runs.lstore (P' := [vr sa, vr C.2.2.1, vi (0 : Int32), vi (0 : Int32), vi (0 : Int32), vi (0 : Int32), vi (-1 : Int32), vl (0 : Int64), v2, vn, vn, vn, vn, vn, vn, vn, vn, vn, vn, vn, vn]) d0_23 (by decide) rfl <| Runs.lconst d0_25 cl_0 <| Runs.lstore (P' := [vr sa, vr C.2.2.1, vi (0 : Int32), vi (0 : Int32), vi (0 : Int32), vi (0 : Int32), vi (-1 : Int32), vl (0 : Int64), v2, vl (0 : Int64), v2, vn, vn, vn, vn, vn, vn, vn, vn, vn, vn]) d0_26 (by decide) rfl <| Runs.iconst d0_28 ci_0 <| Runs.istore (P' := [vr sa, vr C.2.2.1, vi (0 : Int32), vi (0 : Int32), vi (0 : Int32), vi (0 : Int32), vi (-1 : Int32), vl (0 : Int64), v2, vl (0 : Int64), v2, vi (0 : Int32), vn, vn, vn, vn, vn, vn, vn, vn, vn]) d0_29 (by decide) rfl <| Runs.iconst d0_31 ci_0 <| Runs.istore (P' := [vr sa, vr C.2.2.1, vi (0 : Int32), vi (0 : Int32), vi (0 : Int32), vi (0 : Int32), vi (-1 : Int32), vl (0 : Int64), v2, vl (0 : Int64), v2, vi (0 : Int32), vi (0 : Int32), vn, vn, vn, vn, vn, vn, vn, vn]) d0_32 (by decide) rfl <| L_law_l34_p hs NF q116 (0 : Int32) (0 : Int32) (0 : Int32) (0 : Int32) (-1 : Int32) (0 : Int64) (0 : Int64) (0 : Int32) (0 : Int32) hf
theorem L_law_pay {C : Ctx} {sa : Nat} {z : Int32} {f : Int32 → Int32} (hs : ScrF C sa z f) {res : Int32} {NF : Nat} (hf : L_law NF z f = some res) : Pays C B0 [.ref sa] (C.2.2.1, []) (fun v _ => v = (some (.int res))) :=
  Pays.of pnL (Nat.le_of_ble_eq_true rfl) (P := [vr sa, vn, vn, vn, vn, vn, vn, vn, vn, vn, vn, vn, vn, vn, vn, vn, vn, vn, vn, vn, vn]) 20 rfl (L_law_p hs hf)
--OWED--
theorem gI_sI (ob : Rec) (k j : Nat) (v : Int32) : gI (sI ob k v) j = if j = k then v else gI ob j := rfl
theorem gI_sA (ob : Rec) (k j : Nat) (i v : Int32) : gI (sA ob k i v) j = gI ob j := rfl
theorem gI_sJ (ob : Rec) (k j : Nat) (i : Int32) (v : Int64) : gI (sJ ob k i v) j = gI ob j := rfl
theorem gA_sI (ob : Rec) (k j : Nat) (v x : Int32) : gA (sI ob k v) j x = gA ob j x := rfl
theorem gA_sA (ob : Rec) (k j : Nat) (i v x : Int32) : gA (sA ob k i v) j x = if j = k ∧ x = i then v else gA ob j x := rfl
theorem gA_sJ (ob : Rec) (k j : Nat) (i x : Int32) (v : Int64) : gA (sJ ob k i v) j x = gA ob j x := rfl
theorem gJ_sI (ob : Rec) (k j : Nat) (v x : Int32) : gJ (sI ob k v) j x = gJ ob j x := rfl
theorem gJ_sA (ob : Rec) (k j : Nat) (i v x : Int32) : gJ (sA ob k i v) j x = gJ ob j x := rfl
theorem gJ_sJ (ob : Rec) (k j : Nat) (i x : Int32) (v : Int64) : gJ (sJ ob k i v) j x = if j = k ∧ x = i then v else gJ ob j x := rfl
theorem gI_z (k : Nat) : gI zrec k = 0 := rfl
theorem gA_z (k : Nat) (i : Int32) : gA zrec k i = 0 := rfl
theorem gJ_z (k : Nat) (i : Int32) : gJ zrec k i = 0 := rfl
theorem chk_ok {γ : Type} {n i : Int32} {A : Option γ} (h : 0 ≤ i.toInt ∧ i.toInt < n.toInt) : chk n i A = A := by
  have h0 : ¬ i < 0 := by rw [Int32.lt_iff_toInt_lt]; show ¬ i.toInt < 0; omega
  have h1 : i < n := by rw [Int32.lt_iff_toInt_lt]; exact h.2
  unfold chk; rw [if_neg h0, if_pos h1]
theorem lt_i {x y : Int32} : x < y ↔ x.toInt < y.toInt := Int32.lt_iff_toInt_lt
theorem le_i {x y : Int32} : x ≤ y ↔ x.toInt ≤ y.toInt := Int32.le_iff_toInt_le
theorem eq_i32 {x y : Int32} : x = y ↔ x.toInt = y.toInt := Int32.toInt_inj.symm
theorem bm_id {n : Int} (h : -2147483648 ≤ n ∧ n < 2147483648) : n.bmod (2 ^ 32) = n := Int.bmod_eq_of_le (by omega) (by omega)
theorem ad {x y : Int32} (h : -2147483648 ≤ x.toInt + y.toInt ∧ x.toInt + y.toInt < 2147483648) : (x + y).toInt = x.toInt + y.toInt := by rw [Int32.toInt_add, bm_id h]
theorem sb {x y : Int32} (h : -2147483648 ≤ x.toInt - y.toInt ∧ x.toInt - y.toInt < 2147483648) : (x - y).toInt = x.toInt - y.toInt := by rw [Int32.toInt_sub, bm_id h]
theorem ml {x y : Int32} (h : -2147483648 ≤ x.toInt * y.toInt ∧ x.toInt * y.toInt < 2147483648) : (x * y).toInt = x.toInt * y.toInt := by rw [Int32.toInt_mul, bm_id h]
theorem bind2_some {α β γ : Type} (a : α) (b : β) (f : α → β → Option γ) : bind2 (some (a, b)) f = f a b := rfl
theorem t0 : (0 : Int32).toInt = 0 := rfl
theorem t9 : (9 : Int32).toInt = 9 := rfl
theorem t15 : (15 : Int32).toInt = 15 := rfl
theorem t32 : (32 : Int32).toInt = 32 := rfl
theorem t255 : (255 : Int32).toInt = 255 := rfl
theorem init_e (a : Int32) : ∃ r, X_init a = some r ∧ gI r 1 = 0 ∧ gI r 2 = 0 ∧ 8 ≤ (gI r 0).toInt ∧ (gI r 0).toInt ≤ 32 ∧ gI r 5 = 0 ∧ gI r 6 = -1 ∧ gI r 7 = 0 ∧ ∀ k i, gA r k i = 0 := by
  unfold X_init X_init_b61 X_init_b70 X_resetResult
  by_cases h1 : a < 8
  · simp only [h1, if_true]
    exact ⟨_, rfl, rfl, rfl, by decide, by decide, rfl, rfl, rfl, fun _ _ => rfl⟩
  · by_cases h2 : 32 < a
    · simp only [h1, h2, if_true, if_false]
      exact ⟨_, rfl, rfl, rfl, by decide, by decide, rfl, rfl, rfl, fun _ _ => rfl⟩
    · simp only [h1, h2, if_false]
      simp only [lt_i, Int32.reduceToInt] at h1 h2
      refine ⟨_, rfl, rfl, rfl, ?_, ?_, rfl, rfl, rfl, fun _ _ => rfl⟩
      · show 8 ≤ a.toInt; omega
      · show a.toInt ≤ 32; omega
def ar (t : Int32) : Int32 := if 9 < t then if t = 10 then 1 else 2 else 0
theorem ar_e (ob : Rec) (t : Int32) : X_arity ob t = some (ar t) := by
  unfold X_arity ar; split
  · split <;> rfl
  · rfl
theorem push_out (ob : Rec) (t : Int32) (h : t < 0 ∨ 15 < t) : X_pushToken ob t = some (-1, ob) := by
  unfold X_pushToken
  by_cases c : t < 0
  · rw [if_pos c]
  · rw [if_neg c, if_pos (h.resolve_left c)]
theorem push_ar (ob : Rec) (t : Int32) (h0 : ¬ t < 0) (h1 : ¬ 15 < t) (hl : gI ob 1 < gI ob 0) (hd : gI ob 2 < ar t) : X_pushToken ob t = some (-3, ob) := by
  unfold X_pushToken; rw [if_neg h0, if_neg h1, if_pos hl, ar_e, Option.bind_some, if_pos hd]
theorem push_ok (ob : Rec) (t : Int32) (h0 : ¬ t < 0) (h1 : ¬ 15 < t) (hl : gI ob 1 < gI ob 0) (hl' : 0 ≤ (gI ob 1).toInt ∧ (gI ob 1).toInt < 32) (hd : ¬ gI ob 2 < ar t) : X_pushToken ob t = some (0, sI (sI (sI (sI (sI (sA ob 0 (gI ob 1) t) 1 (gI ob 1 + 1)) 2 (gI ob 2 + 1 - ar t)) 7 0) 5 0) 6 (-1)) := by
  unfold X_pushToken X_resetResult; rw [if_neg h0, if_neg h1, if_pos hl, ar_e, Option.bind_some, if_neg hd, chk_ok (n := 32) (by rw [t32]; exact hl')]; rfl
theorem t1 : (1 : Int32).toInt = 1 := rfl
theorem t2 : (2 : Int32).toInt = 2 := rfl
theorem t3 : (3 : Int32).toInt = 3 := rfl
theorem t4 : (4 : Int32).toInt = 4 := rfl
theorem t8 : (8 : Int32).toInt = 8 := rfl
theorem t128 : (128 : Int32).toInt = 128 := rfl
theorem succ8 {i : Int32} (h : 0 ≤ i.toInt ∧ i.toInt < 1000) : (i + 1).toInt = i.toInt + 1 := by rw [ad (by rw [t1]; omega), t1]
def lw (t j : Int32) : Int64 := (X_leafWord zrec t j).getD 0
theorem lw_e (ob : Rec) (t j : Int32) : X_leafWord ob t j = some (lw t j) := by
  have : ∃ v, X_leafWord zrec t j = some v := by
    unfold X_leafWord X_varWord
    repeat' split
    all_goals exact ⟨_, rfl⟩
  obtain ⟨v, e⟩ := this
  have e' : X_leafWord ob t j = some v := e
  unfold lw; rw [e', e]; rfl
def cmb (t : Int32) (x y : Int64) : Int64 := (X_combine zrec t x y).getD 0
theorem cmb_e (ob : Rec) (t : Int32) (x y : Int64) : X_combine ob t x y = some (cmb t x y) := by
  have : ∃ v, X_combine zrec t x y = some v := by
    unfold X_combine
    repeat' split
    all_goals exact ⟨_, rfl⟩
  obtain ⟨v, e⟩ := this
  have e' : X_combine ob t x y = some v := e
  unfold cmb; rw [e', e]; rfl
theorem ix4 {s j : Int32} (hs : 0 ≤ s.toInt ∧ s.toInt < 32) (hj : 0 ≤ j.toInt ∧ j.toInt < 8) : (s * 4 + j).toInt = s.toInt * 4 + j.toInt := by
  have e : (s * 4).toInt = s.toInt * 4 := by rw [ml (by rw [t4]; omega), t4]
  rw [ad (by omega), e]
def W4 (ob : Rec) (s : Int32) (w : Int32 → Int64) : Rec := sJ (sJ (sJ (sJ ob 2 (s * 4 + 0) (w 0)) 2 (s * 4 + 1) (w 1)) 2 (s * 4 + 2) (w 2)) 2 (s * 4 + 3) (w 3)
/-- only the stack is touched -/
def Ks (ob q : Rec) : Prop := q.1 = ob.1 ∧ q.2.1 = ob.2.1 ∧ ∀ (k : Nat) (x : Int32), ¬ k = 2 → gJ q k x = gJ ob k x
theorem Ks.refl (ob : Rec) : Ks ob ob := ⟨rfl, rfl, fun _ _ _ => rfl⟩
theorem Ks.trans {a b c : Rec} (h : Ks a b) (g : Ks b c) : Ks a c := ⟨g.1.trans h.1, g.2.1.trans h.2.1, fun k x hk => (g.2.2 k x hk).trans (h.2.2 k x hk)⟩
theorem Ks.w4 (ob : Rec) (s : Int32) (w : Int32 → Int64) : Ks ob (W4 ob s w) := by
  refine ⟨rfl, rfl, fun k x hk => ?_⟩
  unfold W4
  rw [gJ_sJ, if_neg (fun h => hk h.1), gJ_sJ, if_neg (fun h => hk h.1), gJ_sJ, if_neg (fun h => hk h.1), gJ_sJ, if_neg (fun h => hk h.1)]
theorem W4_rel (a b : Rec) (s : Int32) (wa wb : Int32 → Int64) (x : Int32) (h : ∀ j : Int32, 0 ≤ j.toInt → j.toInt < 4 → wa j = wb j) (hx : (x = s * 4 + 0 ∨ x = s * 4 + 1 ∨ x = s * 4 + 2 ∨ x = s * 4 + 3) ∨ gJ a 2 x = gJ b 2 x) : gJ (W4 a s wa) 2 x = gJ (W4 b s wb) 2 x := by
  unfold W4
  rw [h 0 (by decide) (by decide), h 1 (by decide) (by decide), h 2 (by decide) (by decide), h 3 (by decide) (by decide)]
  simp only [gJ_sJ, true_and]
  by_cases c3 : x = s * 4 + 3
  · rw [if_pos c3, if_pos c3]
  · rw [if_neg c3, if_neg c3]
    by_cases c2 : x = s * 4 + 2
    · rw [if_pos c2, if_pos c2]
    · rw [if_neg c2, if_neg c2]
      by_cases c1 : x = s * 4 + 1
      · rw [if_pos c1, if_pos c1]
      · rw [if_neg c1, if_neg c1]
        by_cases c0 : x = s * 4 + 0
        · rw [if_pos c0, if_pos c0]
        · rw [if_neg c0, if_neg c0]
          rcases hx with h | h
          · rcases h with h | h | h | h
            · exact absurd h c0
            · exact absurd h c1
            · exact absurd h c2
            · exact absurd h c3
          · exact h
theorem pl_e (ob : Rec) (t s : Int32) (hs : 0 ≤ s.toInt ∧ s.toInt < 32) : X_pushLeaf 400 ob t s = some (W4 ob s (lw t)) := by
  have st : ∀ (n : Nat) (o : Rec) (j : Int32), j < 4 → 0 ≤ j.toInt → X_pushLeaf_l7 400 (n + 1) o t (s * 4) j = X_pushLeaf_l7 400 n (sJ o 2 (s * 4 + j) (lw t j)) t (s * 4) (j + 1) := by
    intro n o j h h0
    show X_pushLeaf_w7 400 _ o t (s * 4) j = _
    have h4 := lt_i.mp h
    rw [t4] at h4
    have e := ix4 hs (j := j) ⟨h0, by omega⟩
    unfold X_pushLeaf_w7; rw [if_pos h, lw_e, Option.bind_some, chk_ok (by rw [t128, e]; omega)]
  show X_pushLeaf_l7 400 (399 + 1) ob t (s * 4) 0 = _
  rw [st 399 _ 0 (by decide) (by decide), st 398 _ _ (by decide) (by decide), st 397 _ _ (by decide) (by decide), st 396 _ _ (by decide) (by decide)]
  rfl
theorem rd4 (o : Rec) (s i j : Int32) (v : Int64) (hs : 0 ≤ s.toInt ∧ s.toInt < 32) (hi : 0 ≤ i.toInt ∧ i.toInt < 8) (hj : 0 ≤ j.toInt ∧ j.toInt < 8) (ne : ¬ j.toInt = i.toInt) : gJ (sJ o 2 (s * 4 + i) v) 2 (s * 4 + j) = gJ o 2 (s * 4 + j) := by
  rw [gJ_sJ, if_neg (fun h => ?_)]
  have e := ix4 hs hj
  rw [h.2, ix4 hs hi] at e
  omega
theorem ng_e (ob : Rec) (s : Int32) (hs : 0 ≤ s.toInt ∧ s.toInt < 32) : X_negateSlot 400 ob s = some (W4 ob s (fun j => gJ ob 2 (s * 4 + j) ^^^ -1)) := by
  have st : ∀ (n : Nat) (o : Rec) (j : Int32) (v : Int64), j < 4 → 0 ≤ j.toInt → gJ o 2 (s * 4 + j) ^^^ -1 = v → X_negateSlot_l6 400 (n + 1) o (s * 4) j = X_negateSlot_l6 400 n (sJ o 2 (s * 4 + j) v) (s * 4) (j + 1) := by
    intro n o j v h h0 hv
    show X_negateSlot_w6 400 _ o (s * 4) j = _
    have h4 := lt_i.mp h
    rw [t4] at h4
    have e := ix4 hs (j := j) ⟨h0, by omega⟩
    unfold X_negateSlot_w6; rw [if_pos h, chk_ok (by rw [t128, e]; omega), chk_ok (by rw [t128, e]; omega), hv]
  show X_negateSlot_l6 400 (399 + 1) ob (s * 4) 0 = _
  rw [st 399 ob 0 (gJ ob 2 (s * 4 + 0) ^^^ -1) (by decide) (by decide) rfl]
  rw [st 398 _ (0 + 1) (gJ ob 2 (s * 4 + 1) ^^^ -1) (by decide) (by decide) (by rw [rd4 _ _ _ _ _ hs (by decide) (by decide) (by decide)]; rfl)]
  rw [st 397 _ (0 + 1 + 1) (gJ ob 2 (s * 4 + 2) ^^^ -1) (by decide) (by decide) (by rw [rd4 _ _ _ _ _ hs (by decide) (by decide) (by decide), rd4 _ _ _ _ _ hs (by decide) (by decide) (by decide)]; rfl)]
  rw [st 396 _ (0 + 1 + 1 + 1) (gJ ob 2 (s * 4 + 3) ^^^ -1) (by decide) (by decide) (by rw [rd4 _ _ _ _ _ hs (by decide) (by decide) (by decide), rd4 _ _ _ _ _ hs (by decide) (by decide) (by decide), rd4 _ _ _ _ _ hs (by decide) (by decide) (by decide)]; rfl)]
  rfl
theorem cs_e (ob : Rec) (t s : Int32) (hs : 0 ≤ s.toInt ∧ s.toInt < 31) : X_combineSlots 400 ob t s = some (W4 ob s (fun j => cmb t (gJ ob 2 (s * 4 + j)) (gJ ob 2 (s * 4 + 4 + j)))) := by
  have hs' : 0 ≤ s.toInt ∧ s.toInt < 32 := by omega
  have e4 : (s * 4 + 4).toInt = s.toInt * 4 + 4 := by rw [ix4 hs' (by decide), t4]
  have up : ∀ j : Int32, 0 ≤ j.toInt → j.toInt < 4 → (s * 4 + 4 + j).toInt = s.toInt * 4 + 4 + j.toInt := fun j h0 h1 => by rw [ad (by rw [e4]; omega), e4]
  have hi : ∀ (o : Rec) (i j : Int32) (v : Int64), 0 ≤ i.toInt → i.toInt < 4 → 0 ≤ j.toInt → j.toInt < 4 → gJ (sJ o 2 (s * 4 + i) v) 2 (s * 4 + 4 + j) = gJ o 2 (s * 4 + 4 + j) := by
    intro o i j v a b c d
    rw [gJ_sJ, if_neg (fun h => ?_)]
    have e := up j c d
    rw [h.2, ix4 hs' ⟨a, by omega⟩] at e
    omega
  have st : ∀ (n : Nat) (o : Rec) (j : Int32) (v : Int64), j < 4 → 0 ≤ j.toInt → cmb t (gJ o 2 (s * 4 + j)) (gJ o 2 (s * 4 + 4 + j)) = v → X_combineSlots_l7 400 (n + 1) o t (s * 4) j = X_combineSlots_l7 400 n (sJ o 2 (s * 4 + j) v) t (s * 4) (j + 1) := by
    intro n o j v h h0 hv
    show X_combineSlots_w7 400 _ o t (s * 4) j = _
    have h4 := lt_i.mp h
    rw [t4] at h4
    have e := ix4 hs' (j := j) ⟨h0, by omega⟩
    have e' := up j h0 h4
    unfold X_combineSlots_w7; rw [if_pos h, chk_ok (by rw [t128, e]; omega), chk_ok (by rw [t128, e']; omega), cmb_e, Option.bind_some, chk_ok (by rw [t128, e]; omega), hv]
  show X_combineSlots_l7 400 (399 + 1) ob t (s * 4) 0 = _
  rw [st 399 ob 0 (cmb t (gJ ob 2 (s * 4 + 0)) (gJ ob 2 (s * 4 + 4 + 0))) (by decide) (by decide) rfl]
  rw [st 398 _ (0 + 1) (cmb t (gJ ob 2 (s * 4 + 1)) (gJ ob 2 (s * 4 + 4 + 1))) (by decide) (by decide) (by rw [rd4 _ _ _ _ _ hs' (by decide) (by decide) (by decide), hi _ _ _ _ (by decide) (by decide) (by decide) (by decide)]; rfl)]
  rw [st 397 _ (0 + 1 + 1) (cmb t (gJ ob 2 (s * 4 + 2)) (gJ ob 2 (s * 4 + 4 + 2))) (by decide) (by decide) (by rw [rd4 _ _ _ _ _ hs' (by decide) (by decide) (by decide), rd4 _ _ _ _ _ hs' (by decide) (by decide) (by decide), hi _ _ _ _ (by decide) (by decide) (by decide) (by decide), hi _ _ _ _ (by decide) (by decide) (by decide) (by decide)]; rfl)]
  rw [st 396 _ (0 + 1 + 1 + 1) (cmb t (gJ ob 2 (s * 4 + 3)) (gJ ob 2 (s * 4 + 4 + 3))) (by decide) (by decide) (by rw [rd4 _ _ _ _ _ hs' (by decide) (by decide) (by decide), rd4 _ _ _ _ _ hs' (by decide) (by decide) (by decide), rd4 _ _ _ _ _ hs' (by decide) (by decide) (by decide), hi _ _ _ _ (by decide) (by decide) (by decide) (by decide), hi _ _ _ _ (by decide) (by decide) (by decide) (by decide), hi _ _ _ _ (by decide) (by decide) (by decide) (by decide)]; rfl)]
  rfl
theorem ar012 (t : Int32) : ar t = 0 ∨ ar t = 1 ∨ ar t = 2 := by
  unfold ar; split
  · split
    · exact Or.inr (Or.inl rfl)
    · exact Or.inr (Or.inr rfl)
  · exact Or.inl rfl
/-- the stacks agree below sp -/
def Ag (sp : Int32) (a b : Rec) : Prop := ∀ x : Int32, 0 ≤ x.toInt → x.toInt < sp.toInt * 4 → gJ a 2 x = gJ b 2 x
theorem step_rel (a b : Rec) (t sp : Int32) (hs : 0 ≤ sp.toInt ∧ sp.toInt ≤ 32) (h : Ag sp a b) : ∃ sp' qa qb, X_step 400 a t sp = some (sp', qa) ∧ X_step 400 b t sp = some (sp', qb) ∧ (0 ≤ sp'.toInt ∧ sp'.toInt ≤ 32) ∧ Ag sp' qa qb ∧ Ks a qa ∧ Ks b qb ∧ (¬ sp < ar t → (ar t = 0 → sp.toInt < 32) → sp'.toInt = sp.toInt + 1 - (ar t).toInt) := by
  have e1 : ¬ 32 < sp := by rw [lt_i, t32]; omega
  by_cases c0 : sp < ar t
  · refine ⟨sp, a, b, ?_, ?_, hs, h, Ks.refl a, Ks.refl b, fun e => absurd c0 e⟩
    · unfold X_step; rw [ar_e, Option.bind_some, if_pos c0]
    · unfold X_step; rw [ar_e, Option.bind_some, if_pos c0]
  · have c0' : ¬ sp.toInt < (ar t).toInt := fun e => c0 (lt_i.mpr e)
    rcases ar012 t with r | r | r
    · by_cases c : sp < 32
      · have cc := lt_i.mp c
        rw [t32] at cc
        have es := succ8 (i := sp) (by omega)
        refine ⟨sp + 1, W4 a sp (lw t), W4 b sp (lw t), ?_, ?_, by omega, fun x x0 x1 => ?_, Ks.w4 _ _ _, Ks.w4 _ _ _, fun _ _ => by rw [r, t0]; omega⟩
        · unfold X_step; rw [ar_e, Option.bind_some, if_neg c0, if_neg e1, if_pos r, if_pos c, pl_e a t sp (by omega), Option.bind_some]
        · unfold X_step; rw [ar_e, Option.bind_some, if_neg c0, if_neg e1, if_pos r, if_pos c, pl_e b t sp (by omega), Option.bind_some]
        · refine W4_rel a b sp _ _ x (fun _ _ _ => rfl) ?_
          by_cases d : x.toInt < sp.toInt * 4
          · exact Or.inr (h x x0 d)
          · left
            have i0 := ix4 (s := sp) (j := 0) (by omega) (by decide)
            have i1 := ix4 (s := sp) (j := 1) (by omega) (by decide)
            have i2 := ix4 (s := sp) (j := 2) (by omega) (by decide)
            have i3 := ix4 (s := sp) (j := 3) (by omega) (by decide)
            rw [t0] at i0; rw [t1] at i1; rw [t2] at i2; rw [t3] at i3
            simp only [eq_i32, i0, i1, i2, i3]
            omega
      · refine ⟨sp, a, b, ?_, ?_, hs, h, Ks.refl a, Ks.refl b, fun _ e => absurd (lt_i.mpr (by rw [t32]; exact e r)) c⟩
        · unfold X_step; rw [ar_e, Option.bind_some, if_neg c0, if_neg e1, if_pos r, if_neg c]
        · unfold X_step; rw [ar_e, Option.bind_some, if_neg c0, if_neg e1, if_pos r, if_neg c]
    · have r0 : ¬ ar t = 0 := by rw [r]; decide
      rw [r, t1] at c0'
      have em : (sp - 1).toInt = sp.toInt - 1 := by rw [sb (by rw [t1]; omega), t1]
      refine ⟨sp, _, _, ?_, ?_, hs, fun x x0 x1 => ?_, Ks.w4 a (sp - 1) (fun j => gJ a 2 ((sp - 1) * 4 + j) ^^^ -1), Ks.w4 b (sp - 1) (fun j => gJ b 2 ((sp - 1) * 4 + j) ^^^ -1), fun _ _ => by rw [r, t1]; omega⟩
      · unfold X_step; rw [ar_e, Option.bind_some, if_neg c0, if_neg e1, if_neg r0, if_pos r, ng_e a (sp - 1) (by omega), Option.bind_some]
      · unfold X_step; rw [ar_e, Option.bind_some, if_neg c0, if_neg e1, if_neg r0, if_pos r, ng_e b (sp - 1) (by omega), Option.bind_some]
      · refine W4_rel a b (sp - 1) _ _ x (fun j j0 j1 => ?_) (Or.inr (h x x0 x1))
        have ej := ix4 (s := sp - 1) (j := j) (by omega) (by omega)
        show gJ a 2 ((sp - 1) * 4 + j) ^^^ -1 = gJ b 2 ((sp - 1) * 4 + j) ^^^ -1
        rw [h _ (by omega) (by omega)]
    · have r0 : ¬ ar t = 0 := by rw [r]; decide
      have r1 : ¬ ar t = 1 := by rw [r]; decide
      rw [r, t2] at c0'
      have em : (sp - 2).toInt = sp.toInt - 2 := by rw [sb (by rw [t2]; omega), t2]
      have em1 : (sp - 1).toInt = sp.toInt - 1 := by rw [sb (by rw [t1]; omega), t1]
      refine ⟨sp - 1, _, _, ?_, ?_, by omega, fun x x0 x1 => ?_, Ks.w4 a (sp - 2) (fun j => cmb t (gJ a 2 ((sp - 2) * 4 + j)) (gJ a 2 ((sp - 2) * 4 + 4 + j))), Ks.w4 b (sp - 2) (fun j => cmb t (gJ b 2 ((sp - 2) * 4 + j)) (gJ b 2 ((sp - 2) * 4 + 4 + j))), fun _ _ => by rw [r, t2]; omega⟩
      · unfold X_step; rw [ar_e, Option.bind_some, if_neg c0, if_neg e1, if_neg r0, if_neg r1, cs_e a t (sp - 2) (by omega), Option.bind_some]
      · unfold X_step; rw [ar_e, Option.bind_some, if_neg c0, if_neg e1, if_neg r0, if_neg r1, cs_e b t (sp - 2) (by omega), Option.bind_some]
      · refine W4_rel a b (sp - 2) _ _ x (fun j j0 j1 => ?_) (Or.inr (h x x0 (by omega)))
        have ej := ix4 (s := sp - 2) (j := j) (by omega) (by omega)
        have e4 : ((sp - 2) * 4 + 4).toInt = (sp - 2).toInt * 4 + 4 := by rw [ix4 (by omega) (by decide), t4]
        have ej' : ((sp - 2) * 4 + 4 + j).toInt = (sp - 2).toInt * 4 + 4 + j.toInt := by rw [ad (by rw [e4]; omega), e4]
        show cmb t (gJ a 2 ((sp - 2) * 4 + j)) (gJ a 2 ((sp - 2) * 4 + 4 + j)) = cmb t (gJ b 2 ((sp - 2) * 4 + j)) (gJ b 2 ((sp - 2) * 4 + 4 + j))
        rw [h _ (by omega) (by omega), h _ (by omega) (by omega)]
def S4 (ob : Rec) (k : Nat) (f : Int32 → Int64) : Rec := sJ (sJ (sJ (sJ ob k 0 (f 0)) k 1 (f 1)) k 2 (f 2)) k 3 (f 3)
theorem S4_k (ob : Rec) (k k' : Nat) (f : Int32 → Int64) (x : Int32) (hk : ¬ k' = k) : gJ (S4 ob k f) k' x = gJ ob k' x := by
  unfold S4
  rw [gJ_sJ, if_neg (fun h => hk h.1), gJ_sJ, if_neg (fun h => hk h.1), gJ_sJ, if_neg (fun h => hk h.1), gJ_sJ, if_neg (fun h => hk h.1)]
theorem j03 {j : Int32} (h0 : 0 ≤ j.toInt) (h1 : j.toInt < 4) : j = 0 ∨ j = 1 ∨ j = 2 ∨ j = 3 := by
  simp only [eq_i32, Int32.reduceToInt]
  omega
theorem S4_j (ob : Rec) (k : Nat) (f : Int32 → Int64) (j : Int32) (h0 : 0 ≤ j.toInt) (h1 : j.toInt < 4) : gJ (S4 ob k f) k j = f j := by
  rcases j03 h0 h1 with rfl | rfl | rfl | rfl <;> (unfold S4; simp [gJ_sJ])
def tp (ob : Rec) (sp j : Int32) : Int64 := if sp < 1 then 0 else gJ ob 2 ((sp - 1) * 4 + j)
theorem so_e (ob : Rec) (sp : Int32) (hs : 0 ≤ sp.toInt ∧ sp.toInt ≤ 32) : X_storeTopIntoF 400 ob sp = some (S4 ob 3 (tp ob sp)) := by
  have st : ∀ (n : Nat) (o : Rec) (j : Int32) (v : Int64), j < 4 → 0 ≤ j.toInt → tp o sp j = v → X_storeTopIntoF_l2 400 (n + 1) o sp j = X_storeTopIntoF_l2 400 n (sJ o 3 j v) sp (j + 1) := by
    intro n o j v h h0 hv
    show X_storeTopIntoF_w2 400 _ o sp j = _
    have h4 := lt_i.mp h
    rw [t4] at h4
    unfold tp at hv
    unfold X_storeTopIntoF_w2
    by_cases c : sp < 1
    · rw [if_pos c] at hv
      rw [if_pos h, if_pos c, chk_ok (by rw [t4]; omega), hv]
    · rw [if_neg c] at hv
      have c' : ¬ sp.toInt < 1 := fun e => c (lt_i.mpr (by rw [t1]; exact e))
      have em : (sp - 1).toInt = sp.toInt - 1 := by rw [sb (by rw [t1]; omega), t1]
      have e := ix4 (s := sp - 1) (j := j) (by omega) (by omega)
      rw [if_pos h, if_neg c, if_neg (by rw [lt_i, t32]; omega), chk_ok (by rw [t128, e]; omega), chk_ok (by rw [t4]; omega), hv]
  show X_storeTopIntoF_l2 400 (399 + 1) ob sp 0 = _
  rw [st 399 ob 0 (tp ob sp 0) (by decide) (by decide) rfl, st 398 (sJ ob 3 0 (tp ob sp 0)) (0 + 1) (tp ob sp 1) (by decide) (by decide) rfl, st 397 (sJ (sJ ob 3 0 (tp ob sp 0)) 3 (0 + 1) (tp ob sp 1)) (0 + 1 + 1) (tp ob sp 2) (by decide) (by decide) rfl, st 396 (sJ (sJ (sJ ob 3 0 (tp ob sp 0)) 3 (0 + 1) (tp ob sp 1)) 3 (0 + 1 + 1) (tp ob sp 2)) (0 + 1 + 1 + 1) (tp ob sp 3) (by decide) (by decide) rfl]
  rfl
def Kt (ob q : Rec) : Prop := (∀ k, ¬ k = 7 → gI q k = gI ob k) ∧ gI q 7 = 1 ∧ q.2.1 = ob.2.1 ∧ ∀ (k : Nat) (x : Int32), ¬ k = 2 → ¬ k = 3 → gJ q k x = gJ ob k x
theorem Kt.a {ob q : Rec} (h : Kt ob q) (k : Nat) (x : Int32) : gA q k x = gA ob k x := by unfold gA; rw [h.2.2.1]
theorem run_rel (len : Int32) (hl : 0 ≤ len.toInt ∧ len.toInt ≤ 32) : ∀ (m fuel : Nat) (a b : Rec) (sp i : Int32), m < fuel → 0 ≤ i.toInt → len.toInt - i.toInt ≤ m → (0 ≤ sp.toInt ∧ sp.toInt ≤ 32) → Ag sp a b → (∀ x : Int32, i.toInt ≤ x.toInt → x.toInt < len.toInt → gA a 0 x = gA b 0 x) → ∃ qa qb, X_ensureTableF_l26 400 fuel a len sp i = some qa ∧ X_ensureTableF_l26 400 fuel b len sp i = some qb ∧ (∀ j : Int32, 0 ≤ j.toInt → j.toInt < 4 → gJ qa 3 j = gJ qb 3 j) ∧ Kt a qa ∧ Kt b qb := by
  have base : ∀ (n : Nat) (a b : Rec) (sp i : Int32), ¬ i.toInt < len.toInt → (0 ≤ sp.toInt ∧ sp.toInt ≤ 32) → Ag sp a b → ∃ qa qb, X_ensureTableF_l26 400 (n + 1) a len sp i = some qa ∧ X_ensureTableF_l26 400 (n + 1) b len sp i = some qb ∧ (∀ j : Int32, 0 ≤ j.toInt → j.toInt < 4 → gJ qa 3 j = gJ qb 3 j) ∧ Kt a qa ∧ Kt b qb := by
    intro n a b sp i hi hs h
    have one : ∀ ob : Rec, X_ensureTableF_l26 400 (n + 1) ob len sp i = some (sI (S4 ob 3 (tp ob sp)) 7 1) ∧ Kt ob (sI (S4 ob 3 (tp ob sp)) 7 1) := by
      intro ob
      refine ⟨?_, fun k hk => ?_, rfl, rfl, fun k x _ hk => ?_⟩
      · show X_ensureTableF_w26 400 _ ob len sp i = _
        unfold X_ensureTableF_w26; rw [if_neg (by rw [lt_i]; omega), so_e ob sp hs, Option.bind_some]
      · rw [gI_sI, if_neg hk]; rfl
      · show gJ (S4 ob 3 (tp ob sp)) k x = _
        exact S4_k ob 3 k _ x hk
    refine ⟨_, _, (one a).1, (one b).1, fun j j0 j1 => ?_, (one a).2, (one b).2⟩
    show gJ (S4 a 3 (tp a sp)) 3 j = gJ (S4 b 3 (tp b sp)) 3 j
    rw [S4_j a 3 _ j j0 j1, S4_j b 3 _ j j0 j1]
    unfold tp
    by_cases c : sp < 1
    · rw [if_pos c, if_pos c]
    · rw [if_neg c, if_neg c]
      have c' : ¬ sp.toInt < 1 := fun e => c (lt_i.mpr (by rw [t1]; exact e))
      have em : (sp - 1).toInt = sp.toInt - 1 := by rw [sb (by rw [t1]; omega), t1]
      have e := ix4 (s := sp - 1) (j := j) (by omega) (by omega)
      exact h _ (by omega) (by omega)
  intro m
  induction m with
  | zero =>
    intro fuel a b sp i hf h0 h2 hs h ht
    obtain ⟨n, rfl⟩ : ∃ n, fuel = n + 1 := ⟨fuel - 1, by omega⟩
    exact base n a b sp i (by omega) hs h
  | succ m ih =>
    intro fuel a b sp i hf h0 h2 hs h ht
    obtain ⟨n, rfl⟩ : ∃ n, fuel = n + 1 := ⟨fuel - 1, by omega⟩
    by_cases hc : i.toInt < len.toInt
    · have ei := succ8 (i := i) (by omega)
      have et := ht i (by omega) hc
      obtain ⟨sp', pa, pb, ea, eb, hs', h', ka, kb, -⟩ := step_rel a b (gA a 0 i) sp hs h
      have ga : ∀ x, gA pa 0 x = gA a 0 x := fun x => by unfold gA; rw [ka.2.1]
      have gb : ∀ x, gA pb 0 x = gA b 0 x := fun x => by unfold gA; rw [kb.2.1]
      obtain ⟨qa, qb, fa, fb, tt, k1, k2⟩ := ih n pa pb sp' (i + 1) (by omega) (by omega) (by omega) hs' h' (fun x x0 x1 => by rw [ga, gb]; exact ht x (by omega) x1)
      have lift : ∀ {o p q : Rec}, Ks o p → Kt p q → Kt o q := by
        intro o p q k t
        refine ⟨fun j hj => (t.1 j hj).trans (by unfold gI; rw [k.1]), t.2.1, t.2.2.1.trans k.2.1, fun j x a b => (t.2.2.2 j x a b).trans (k.2.2 j x a)⟩
      refine ⟨qa, qb, ?_, ?_, tt, lift ka k1, lift kb k2⟩
      · rw [← fa]
        show X_ensureTableF_w26 400 _ a len sp i = _
        unfold X_ensureTableF_w26; rw [if_pos (lt_i.mpr hc), chk_ok (by rw [t32]; omega), ea, bind2_some]
      · rw [← fb]
        show X_ensureTableF_w26 400 _ b len sp i = _
        unfold X_ensureTableF_w26; rw [if_pos (lt_i.mpr hc), chk_ok (by rw [t32]; omega), ← et, eb, bind2_some]
    · exact base n a b sp i hc hs h
/-- a kept table is what a new reckoning gives -/
def Val (ob : Rec) : Prop := gI ob 7 = 1 → ∀ o' : Rec, gI o' 1 = gI ob 1 → (∀ x : Int32, 0 ≤ x.toInt → x.toInt < (gI ob 1).toInt → gA o' 0 x = gA ob 0 x) → gI o' 7 = 0 → ∃ q', X_ensureTableF 400 o' = some q' ∧ ∀ j : Int32, 0 ≤ j.toInt → j.toInt < 4 → gJ q' 3 j = gJ ob 3 j
theorem en_e (ob : Rec) (hn : (gI ob 1).toInt ≤ 32) (h7 : gI ob 7 = 0) : X_ensureTableF 400 ob = X_ensureTableF_l26 400 400 ob (gI ob 1) 0 0 := by
  unfold X_ensureTableF; rw [if_pos h7, if_neg (by rw [lt_i, t32]; omega)]
theorem ens (ob : Rec) (hn : 0 ≤ (gI ob 1).toInt ∧ (gI ob 1).toInt ≤ 32) (h7 : gI ob 7 = 0 ∨ gI ob 7 = 1) (hv : Val ob) : ∃ q, X_ensureTableF 400 ob = some q ∧ Kt ob q ∧ Val q := by
  have z : ∀ a b : Rec, Ag 0 a b := fun a b x x0 x1 => absurd x1 (by rw [t0]; omega)
  rcases h7 with h7 | h7
  · obtain ⟨q, -, e, -, -, k, -⟩ := run_rel (gI ob 1) hn 32 400 ob ob 0 0 (by omega) (by decide) (by rw [t0]; omega) (by decide) (z _ _) (fun _ _ _ => rfl)
    refine ⟨q, (en_e ob hn.2 h7).trans e, k, fun _ o' h1 ht h7' => ?_⟩
    rw [k.1 1 (by decide)] at h1 ht
    obtain ⟨qa, qb, ea, eb, tt, -, -⟩ := run_rel (gI ob 1) hn 32 400 ob o' 0 0 (by omega) (by decide) (by rw [t0]; omega) (by decide) (z _ _) (fun x x0 x1 => by rw [ht x (by rw [t0] at x0; exact x0) x1, k.a])
    rw [e] at ea
    have eq := Option.some.inj ea
    refine ⟨qb, ?_, fun j j0 j1 => ?_⟩
    · rw [en_e o' (by rw [h1]; exact hn.2) h7', h1]; exact eb
    · rw [eq]; exact (tt j j0 j1).symm
  · refine ⟨ob, ?_, ⟨fun _ _ => rfl, h7, rfl, fun _ _ _ _ => rfl⟩, hv⟩
    unfold X_ensureTableF; rw [h7, if_neg (by decide)]
theorem tab_eq {a b : Rec} (h7a : gI a 7 = 1) (h7b : gI b 7 = 1) (va : Val a) (vb : Val b) (h1 : gI a 1 = gI b 1) (ht : ∀ x : Int32, 0 ≤ x.toInt → x.toInt < (gI a 1).toInt → gA a 0 x = gA b 0 x) : ∀ j : Int32, 0 ≤ j.toInt → j.toInt < 4 → gJ a 3 j = gJ b 3 j := by
  intro j j0 j1
  obtain ⟨q1, e1, f1⟩ := va h7a (sI b 7 0) h1.symm (fun x x0 x1 => (ht x x0 x1).symm) rfl
  obtain ⟨q2, e2, f2⟩ := vb h7b (sI b 7 0) rfl (fun x x0 x1 => rfl) rfl
  rw [e1] at e2
  have eq := Option.some.inj e2
  rw [← f1 j j0 j1, ← f2 j j0 j1, eq]
theorem lb_i (a b : Rec) : ∀ (n : Nat) (l : Int64) (i5 i6 i7 : Int32), X_lowestBit_l23 400 a n l i5 i6 i7 = X_lowestBit_l23 400 b n l i5 i6 i7 := by
  intro n
  induction n with
  | zero => intros; rfl
  | succ n ih =>
    intro l i5 i6 i7
    show X_lowestBit_w23 400 a _ l i5 i6 i7 = X_lowestBit_w23 400 b _ l i5 i6 i7
    unfold X_lowestBit_w23 X_lowestBit_b49
    simp only [ih]
theorem lb_t (ob : Rec) : ∀ (m fuel : Nat) (l : Int64) (i5 i6 i7 : Int32), m < fuel → 0 ≤ i7.toInt → 6 - i7.toInt ≤ m → ∃ r, X_lowestBit_l23 400 ob fuel l i5 i6 i7 = some r := by
  have t6 : (6 : Int32).toInt = 6 := rfl
  intro m
  induction m with
  | zero =>
    intro fuel l i5 i6 i7 hf h0 h2
    obtain ⟨n, rfl⟩ : ∃ n, fuel = n + 1 := ⟨fuel - 1, by omega⟩
    refine ⟨i5, ?_⟩
    show X_lowestBit_w23 400 ob _ l i5 i6 i7 = _
    unfold X_lowestBit_w23; rw [if_neg (by rw [lt_i, t6]; omega)]
  | succ m ih =>
    intro fuel l i5 i6 i7 hf h0 h2
    obtain ⟨n, rfl⟩ : ∃ n, fuel = n + 1 := ⟨fuel - 1, by omega⟩
    show ∃ r, X_lowestBit_w23 400 ob _ l i5 i6 i7 = some r
    unfold X_lowestBit_w23 X_lowestBit_b49
    by_cases c : i7 < 6
    · have c' := lt_i.mp c
      rw [t6] at c'
      have ei := succ8 (i := i7) (by omega)
      rw [if_pos c]
      repeat' split
      all_goals exact ih n _ _ _ (i7 + 1) (by omega) (by omega) (by omega)
    · rw [if_neg c]; exact ⟨_, rfl⟩
def lbv (l : Int64) : Int32 := (X_lowestBit 400 zrec l).getD 0
theorem lb_e (ob : Rec) (l : Int64) : X_lowestBit 400 ob l = some (lbv l) := by
  have e : X_lowestBit 400 ob l = X_lowestBit 400 zrec l := by
    unfold X_lowestBit; rw [lb_i ob zrec]
  have : ∃ r, X_lowestBit 400 zrec l = some r := by
    unfold X_lowestBit
    split
    · exact ⟨_, rfl⟩
    · exact lb_t zrec 6 400 _ _ _ _ (by omega) (by decide) (by decide)
  obtain ⟨r, er⟩ := this
  unfold lbv
  rw [e, er]; rfl
def fsv (f : Int32 → Int64) : Int32 := if f 0 = 0 then (if f 1 = 0 then (if f 2 = 0 then (if f 3 = 0 then -1 else 3 * 64 + lbv (f 3)) else 2 * 64 + lbv (f 2)) else 1 * 64 + lbv (f 1)) else 0 * 64 + lbv (f 0)
theorem fs_e (ob : Rec) : X_firstSetInWork 400 ob = some (fsv (gJ ob 5)) := by
  have st : ∀ (n : Nat) (i : Int32), i < 4 → 0 ≤ i.toInt → X_firstSetInWork_l2 400 ob (n + 1) i = if gJ ob 5 i = 0 then X_firstSetInWork_l2 400 ob n (i + 1) else some (i * 64 + lbv (gJ ob 5 i)) := by
    intro n i h h0
    show X_firstSetInWork_w2 400 ob _ i = _
    have h4 := lt_i.mp h
    rw [t4] at h4
    unfold X_firstSetInWork_w2
    rw [if_pos h, chk_ok (by rw [t4]; omega), lb_e]; rfl
  show X_firstSetInWork_l2 400 ob (399 + 1) 0 = _
  rw [st 399 0 (by decide) (by decide), st 398 (0 + 1) (by decide) (by decide), st 397 (0 + 1 + 1) (by decide) (by decide), st 396 (0 + 1 + 1 + 1) (by decide) (by decide)]
  have e : X_firstSetInWork_l2 400 ob 396 (0 + 1 + 1 + 1 + 1) = some (-1) := rfl
  rw [e]
  unfold fsv
  show (if gJ ob 5 0 = 0 then (if gJ ob 5 1 = 0 then (if gJ ob 5 2 = 0 then (if gJ ob 5 3 = 0 then some (-1) else some (3 * 64 + lbv (gJ ob 5 3))) else some (2 * 64 + lbv (gJ ob 5 2))) else some (1 * 64 + lbv (gJ ob 5 1))) else some (0 * 64 + lbv (gJ ob 5 0))) = _
  by_cases c0 : gJ ob 5 0 = 0
  · by_cases c1 : gJ ob 5 1 = 0
    · by_cases c2 : gJ ob 5 2 = 0
      · by_cases c3 : gJ ob 5 3 = 0
        · rw [if_pos c0, if_pos c1, if_pos c2, if_pos c3, if_pos c0, if_pos c1, if_pos c2, if_pos c3]
        · rw [if_pos c0, if_pos c1, if_pos c2, if_neg c3, if_pos c0, if_pos c1, if_pos c2, if_neg c3]
      · rw [if_pos c0, if_pos c1, if_neg c2, if_pos c0, if_pos c1, if_neg c2]
    · rw [if_pos c0, if_neg c1, if_pos c0, if_neg c1]
  · rw [if_neg c0, if_neg c0]
theorem fsv_c {f g : Int32 → Int64} (h : ∀ j : Int32, 0 ≤ j.toInt → j.toInt < 4 → f j = g j) : fsv f = fsv g := by
  unfold fsv
  rw [h 0 (by decide) (by decide), h 1 (by decide) (by decide), h 2 (by decide) (by decide), h 3 (by decide) (by decide)]
theorem ln_e (ob : Rec) : X_loadWorkNegatedF 400 ob = some (S4 ob 5 (fun j => gJ ob 3 j ^^^ -1)) := rfl
theorem lf_e (ob : Rec) : X_loadWorkF 400 ob = some (S4 ob 5 (fun j => gJ ob 3 j)) := rfl
theorem ct_e (ob : Rec) : X_copyTableFToS 400 ob = some (S4 ob 4 (fun j => gJ ob 3 j)) := rfl
theorem co_1 {ob : Rec} (h : gI ob 2 = 1) : X_completeF ob = some 1 := by unfold X_completeF; rw [if_pos h]
theorem co_0 {ob : Rec} (h : ¬ gI ob 2 = 1) : X_completeF ob = some 0 := by unfold X_completeF; rw [if_neg h]
theorem cts (ob : Rec) (len : Int32) (hl : 0 ≤ len.toInt ∧ len.toInt ≤ 32) : ∀ (m fuel : Nat) (o : Rec) (i : Int32), m < fuel → 0 ≤ i.toInt → len.toInt - i.toInt ≤ m → o.1 = ob.1 ∧ (∀ (k : Nat) (x : Int32), ¬ k = 1 → gA o k x = gA ob k x) ∧ o.2.2 = ob.2.2 → ∃ q, X_copyTokensToSaved_l16 400 fuel o len i = some (sI q 3 len) ∧ q.1 = ob.1 ∧ (∀ (k : Nat) (x : Int32), ¬ k = 1 → gA q k x = gA ob k x) ∧ q.2.2 = ob.2.2 := by
  intro m
  induction m with
  | zero =>
    intro fuel o i hf h0 h2 ho
    obtain ⟨n, rfl⟩ : ∃ n, fuel = n + 1 := ⟨fuel - 1, by omega⟩
    refine ⟨o, ?_, ho⟩
    show X_copyTokensToSaved_w16 400 _ o len i = _
    unfold X_copyTokensToSaved_w16; rw [if_neg (by rw [lt_i]; omega)]
  | succ m ih =>
    intro fuel o i hf h0 h2 ho
    obtain ⟨n, rfl⟩ : ∃ n, fuel = n + 1 := ⟨fuel - 1, by omega⟩
    by_cases hc : i.toInt < len.toInt
    · have ei := succ8 (i := i) (by omega)
      have c : ∀ A : Option Rec, chk 32 i A = A := fun A => chk_ok (by rw [t32]; omega)
      obtain ⟨q, e, hq⟩ := ih n (sA o 1 i (gA o 0 i)) (i + 1) (by omega) (by omega) (by omega) ⟨ho.1, fun k x hk => by rw [gA_sA, if_neg (fun h => hk h.1)]; exact ho.2.1 k x hk, ho.2.2⟩
      refine ⟨q, ?_, hq⟩
      rw [← e]
      show X_copyTokensToSaved_w16 400 _ o len i = _
      unfold X_copyTokensToSaved_w16; rw [if_pos (lt_i.mpr hc), c, c]
    · refine ⟨o, ?_, ho⟩
      show X_copyTokensToSaved_w16 400 _ o len i = _
      unfold X_copyTokensToSaved_w16; rw [if_neg (by rw [lt_i]; omega)]
/-- save's copy of the tokens -/
theorem ck_e (ob : Rec) (hn : 0 ≤ (gI ob 1).toInt ∧ (gI ob 1).toInt ≤ 32) : ∃ q, X_copyTokensToSaved 400 ob = some (sI q 3 (gI ob 1)) ∧ q.1 = ob.1 ∧ (∀ (k : Nat) (x : Int32), ¬ k = 1 → gA q k x = gA ob k x) ∧ q.2.2 = ob.2.2 := by
  obtain ⟨q, e, hq⟩ := cts ob (gI ob 1) hn 32 400 ob 0 (by omega) (by decide) (by rw [t0]; omega) ⟨rfl, fun _ _ _ => rfl, rfl⟩
  refine ⟨q, ?_, hq⟩
  unfold X_copyTokensToSaved; rw [if_neg (by rw [lt_i, t32]; omega)]; exact e
theorem val_c {p q : Rec} (v : Val q) (e7 : gI p 7 = gI q 7) (e1 : gI p 1 = gI q 1) (ea : ∀ x, gA p 0 x = gA q 0 x) (e3 : ∀ x, gJ p 3 x = gJ q 3 x) : Val p := by
  intro h7 o' o1 ot o7
  rw [e7] at h7; rw [e1] at o1 ot
  obtain ⟨q', eq, f⟩ := v h7 o' o1 (fun x x0 x1 => by rw [ot x x0 x1, ea]) o7
  exact ⟨q', eq, fun j j0 j1 => by rw [f j j0 j1, e3]⟩
theorem val0 {ob : Rec} (h : gI ob 7 = 0) : Val ob := fun e => by rw [h] at e; exact absurd e (by decide)
/-- what the three queries answer and leave, by the work words -/
def rs (q : Rec) (f : Int32 → Int64) (y n : Int32) : Int32 × Rec := (if fsv f < 0 then y else n, sI (sI (S4 q 5 f) 5 (if fsv f < 0 then y else n)) 6 (if fsv f < 0 then -1 else fsv f))
theorem rs_eq (q : Rec) (f : Int32 → Int64) (y n : Int32) : ((X_firstSetInWork 400 (S4 q 5 f)).bind fun r8 => if r8 < (0 : Int32) then (X_setResult (S4 q 5 f) y (-1 : Int32)).bind fun q11 => some (y, q11) else (X_setResult (S4 q 5 f) n r8).bind fun q13 => some (n, q13)) = some (rs q f y n) := by
  have e : fsv (gJ (S4 q 5 f) 5) = fsv f := fsv_c (fun j j0 j1 => S4_j q 5 f j j0 j1)
  rw [fs_e, Option.bind_some, e]
  unfold rs X_setResult
  by_cases c : fsv f < 0
  · rw [if_pos c, if_pos c, if_pos c, Option.bind_some]
  · rw [if_neg c, if_neg c, if_neg c, Option.bind_some]
theorem push_full (ob : Rec) (t : Int32) (h0 : ¬ t < 0) (h1 : ¬ 15 < t) (hl : ¬ gI ob 1 < gI ob 0) : X_pushToken ob t = some (-2, ob) := by
  unfold X_pushToken; rw [if_neg h0, if_neg h1, if_neg hl]
def pu (ob : Rec) (t : Int32) : Rec := sI (sI (sI (sI (sI (sA ob 0 (gI ob 1) t) 1 (gI ob 1 + 1)) 2 (gI ob 2 + 1 - ar t)) 7 0) 5 0) 6 (-1)
theorem pu_a (ob : Rec) (t x : Int32) : gA (pu ob t) 0 x = if x = gI ob 1 then t else gA ob 0 x := by
  unfold pu; simp only [gA_sI, gA_sA]; simp
def rm (ob : Rec) : Rec := sI (sI (sI (sI (sI ob 2 (gI ob 2 - (1 - ar (gA ob 0 (gI ob 1 - 1))))) 1 (gI ob 1 - 1)) 7 0) 5 0) 6 (-1)
theorem back (x y : Int32) : x + 1 - y - (1 - y) = x := by
  apply Int32.toBitVec_inj.mp
  simp only [Int32.toBitVec_add, Int32.toBitVec_sub]
  apply BitVec.eq_of_toNat_eq
  simp only [BitVec.toNat_sub, BitVec.toNat_add]
  have := x.toBitVec.isLt
  have := y.toBitVec.isLt
  have e1 : (1 : Int32).toBitVec.toNat = 1 := rfl
  rw [e1]
  omega
theorem back1 (x : Int32) : x + 1 - 1 = x := by
  have := back x 0
  rw [Int32.sub_zero, Int32.sub_zero] at this
  exact this
theorem ld_e (ob : Rec) : X_loadWorkDifference 400 ob = some (S4 ob 5 (fun j => gJ ob 3 j ^^^ gJ ob 4 j)) := rfl
/- the lowest set bit -/
theorem odd2 : ∀ n : Nat, 0 < n → ∃ k q, n = 2 ^ k * (2 * q + 1) := by
  intro n
  induction n using Nat.strongRecOn with
  | _ n ih =>
    intro h
    by_cases c : n % 2 = 1
    · exact ⟨0, n / 2, by omega⟩
    · obtain ⟨k, q, e⟩ := ih (n / 2) (by omega) (by omega)
      refine ⟨k + 1, q, ?_⟩
      rw [Nat.pow_succ, Nat.mul_comm (2 ^ k) 2, Nat.mul_assoc, ← e]; omega
theorem low_n (n : Nat) (hn : n < 2 ^ 64) (k q : Nat) (e : n = 2 ^ k * (2 * q + 1)) (hk : k < 64) : n &&& (2 ^ 64 - n) = 2 ^ k ∧ n.testBit k = true ∧ ∀ j, j < k → n.testBit j = false := by
  have hp : 0 < 2 ^ k := Nat.two_pow_pos k
  have n0 : 0 < n := by rw [e]; exact Nat.mul_pos hp (by omega)
  have tb : ∀ j, n.testBit j = (decide (j ≥ k) && (2 * q + 1).testBit (j - k)) := by
    intro j; rw [e, Nat.testBit_two_pow_mul]
  have e1 : n - 1 = 2 ^ k * (2 * q) + (2 ^ k - 1) := by
    rw [e, Nat.mul_add, Nat.mul_one]; omega
  have tb1 : ∀ j, (n - 1).testBit j = if j < k then (2 ^ k - 1).testBit j else (2 * q).testBit (j - k) := by
    intro j; rw [e1, Nat.testBit_two_pow_mul_add _ (by omega)]
  have tn : ∀ j, (2 ^ 64 - n).testBit j = (decide (j < 64) && !(n - 1).testBit j) := by
    intro j
    have : n = (n - 1) + 1 := by omega
    have h := Nat.testBit_two_pow_sub_succ (x := n - 1) (n := 64) (by omega) j
    rw [← this] at h; exact h
  refine ⟨?_, ?_, ?_⟩
  · apply Nat.eq_of_testBit_eq
    intro i
    rw [Nat.testBit_and, tb, tn, tb1, Nat.testBit_two_pow]
    by_cases c : i < k
    · have c1 : ¬ i ≥ k := by omega
      have c2 : ¬ k = i := by omega
      simp [c1, c2]
    · by_cases c' : i = k
      · subst c'
        simp [hk]
      · obtain ⟨d, hd⟩ : ∃ d, i - k = d + 1 := ⟨i - k - 1, by omega⟩
        have c2 : ¬ k = i := by omega
        have e2 : (2 * q + 1) / 2 = q := by omega
        have e3 : (2 * q) / 2 = q := by omega
        rw [hd, Nat.testBit_succ, Nat.testBit_succ, e2, e3, if_neg c]
        simp only [c2, decide_false]
        cases q.testBit d <;> simp
  · rw [tb]; simp
  · intro j hj
    have c1 : ¬ j ≥ k := by omega
    rw [tb]; simp [c1]
theorem low_b (x : BitVec 64) (hx : ¬ x = 0#64) : ∃ k, k < 64 ∧ x &&& -x = BitVec.ofNat 64 (2 ^ k) ∧ x.getLsbD k = true ∧ ∀ j, j < k → x.getLsbD j = false := by
  have h0 : 0 < x.toNat := by
    apply Nat.pos_of_ne_zero
    intro e
    exact hx (BitVec.eq_of_toNat_eq (by rw [e]; rfl))
  obtain ⟨k, q, e⟩ := odd2 x.toNat h0
  have hl := x.isLt
  have hk : k < 64 := by
    apply Classical.byContradiction
    intro c
    have : 2 ^ 64 ≤ 2 ^ k := Nat.pow_le_pow_right (by omega) (by omega)
    have h1 : 2 ^ k * 1 ≤ 2 ^ k * (2 * q + 1) := Nat.mul_le_mul_left _ (by omega)
    rw [← e] at h1
    omega
  obtain ⟨a, b, c⟩ := low_n x.toNat hl k q e hk
  refine ⟨k, hk, ?_, b, c⟩
  apply BitVec.eq_of_toNat_eq
  have hp : 2 ^ k < 2 ^ 64 := Nat.pow_lt_pow_right (by omega) hk
  rw [BitVec.toNat_and, BitVec.toNat_neg, BitVec.toNat_ofNat, Nat.mod_eq_of_lt (by omega : 2 ^ 64 - x.toNat < 2 ^ 64), a, Nat.mod_eq_of_lt hp]
def hot (k : Nat) : Int64 := Int64.ofBitVec (BitVec.ofNat 64 (2 ^ k))
theorem hots : ∀ k ∈ List.range 64, X_lowestBit_l23 400 zrec 400 (hot k) 0 32 0 = some (Int32.ofNat k) := by decide +kernel
theorem lb_s (l : Int64) (hl : ¬ l = 0) : ∃ k, k < 64 ∧ lbv l = Int32.ofNat k ∧ l.toBitVec.getLsbD k = true ∧ ∀ j, j < k → l.toBitVec.getLsbD j = false := by
  obtain ⟨k, hk, e, a, b⟩ := low_b l.toBitVec (fun h => hl (Int64.toBitVec_inj.mp (by rw [h]; rfl)))
  refine ⟨k, hk, ?_, a, b⟩
  have e' : l &&& -l = hot k := by
    apply Int64.toBitVec_inj.mp
    rw [Int64.toBitVec_and, Int64.toBitVec_neg, e]; rfl
  unfold lbv X_lowestBit
  rw [if_neg hl, e', hots k (List.mem_range.mpr hk)]; rfl
/-- mask m of a table -/
def tb (f : Int32 → Int64) (m : Nat) : Bool := (f (Int32.ofNat (m / 64))).toBitVec.getLsbD (m % 64)
theorem fs_s (f : Int32 → Int64) : (fsv f < 0 ∧ ∀ m, m < 256 → tb f m = false) ∨ (∃ w, w < 256 ∧ fsv f = Int32.ofNat w ∧ tb f w = true ∧ ∀ m, m < w → tb f m = false) := by
  have z : ∀ (i : Nat) (m : Nat), f (Int32.ofNat i) = 0 → m / 64 = i → tb f m = false := by
    intro i m h hm
    unfold tb; rw [hm, h]
    show (0#64).getLsbD (m % 64) = false
    simp
  have hit : ∀ (i : Nat), i < 4 → ¬ f (Int32.ofNat i) = 0 → (∀ j, j < i → f (Int32.ofNat j) = 0) → fsv f = Int32.ofNat i * 64 + lbv (f (Int32.ofNat i)) → ∃ w, w < 256 ∧ fsv f = Int32.ofNat w ∧ tb f w = true ∧ ∀ m, m < w → tb f m = false := by
    intro i hi hf hz hs
    obtain ⟨k, hk, e, a, b⟩ := lb_s (f (Int32.ofNat i)) hf
    refine ⟨i * 64 + k, by omega, ?_, ?_, ?_⟩
    · rw [hs, e, eq_i32]
      have o1 : (Int32.ofNat i).toInt = i := Int32.toInt_ofNat_of_lt (by omega)
      have o2 : (Int32.ofNat k).toInt = k := Int32.toInt_ofNat_of_lt (by omega)
      have o3 : (Int32.ofNat (i * 64 + k)).toInt = ((i * 64 + k : Nat) : Int) := Int32.toInt_ofNat_of_lt (by omega)
      have t64 : (64 : Int32).toInt = 64 := rfl
      have o4 : (Int32.ofNat i * 64).toInt = i * 64 := by rw [ml (by rw [o1, t64]; omega), o1, t64]
      rw [ad (by rw [o4, o2]; omega), o4, o2, o3]; omega
    · unfold tb
      rw [show (i * 64 + k) / 64 = i by omega, show (i * 64 + k) % 64 = k by omega]; exact a
    · intro m hm
      by_cases c : m / 64 = i
      · unfold tb; rw [c]; exact b _ (by omega)
      · exact z (m / 64) m (hz _ (by omega)) rfl
  have f0 : f 0 = f (Int32.ofNat 0) := rfl
  have f1 : f 1 = f (Int32.ofNat 1) := rfl
  have f2 : f 2 = f (Int32.ofNat 2) := rfl
  have f3 : f 3 = f (Int32.ofNat 3) := rfl
  by_cases c0 : f 0 = 0
  · by_cases c1 : f 1 = 0
    · by_cases c2 : f 2 = 0
      · by_cases c3 : f 3 = 0
        · left
          refine ⟨by unfold fsv; rw [if_pos c0, if_pos c1, if_pos c2, if_pos c3]; decide, fun m hm => ?_⟩
          have : m / 64 = 0 ∨ m / 64 = 1 ∨ m / 64 = 2 ∨ m / 64 = 3 := by omega
          rcases this with h | h | h | h
          · exact z 0 m (f0 ▸ c0) h
          · exact z 1 m (f1 ▸ c1) h
          · exact z 2 m (f2 ▸ c2) h
          · exact z 3 m (f3 ▸ c3) h
        · right
          refine hit 3 (by omega) c3 (fun j hj => ?_) (by unfold fsv; rw [if_pos c0, if_pos c1, if_pos c2, if_neg c3]; rfl)
          have : j = 0 ∨ j = 1 ∨ j = 2 := by omega
          rcases this with rfl | rfl | rfl
          · exact c0
          · exact c1
          · exact c2
      · right
        refine hit 2 (by omega) c2 (fun j hj => ?_) (by unfold fsv; rw [if_pos c0, if_pos c1, if_neg c2]; rfl)
        have : j = 0 ∨ j = 1 := by omega
        rcases this with rfl | rfl
        · exact c0
        · exact c1
    · right
      refine hit 1 (by omega) c1 (fun j hj => ?_) (by unfold fsv; rw [if_pos c0, if_neg c1]; rfl)
      have : j = 0 := by omega
      rw [this]; exact c0
  · right
    exact hit 0 (by omega) c0 (fun j hj => absurd hj (by omega)) (by unfold fsv; rw [if_neg c0]; rfl)
theorem tb_not (g : Int32 → Int64) (m : Nat) : tb (fun j => g j ^^^ -1) m = !tb g m := by
  unfold tb
  have h : m % 64 < 64 := Nat.mod_lt _ (by omega)
  have e : (-1 : Int64).toBitVec = BitVec.allOnes 64 := by decide
  show (g (Int32.ofNat (m / 64)) ^^^ -1).toBitVec.getLsbD (m % 64) = _
  rw [Int64.toBitVec_xor, e, BitVec.getLsbD_xor, BitVec.getLsbD_allOnes]
  simp [h]
theorem ixs : ∀ n ∈ List.range 256, ((Int32.ofNat n >>> ((6 : Int32) &&& 31)) &&& (3 : Int32)) = Int32.ofNat (n / 64) ∧ (((Int32.ofNat n &&& (63 : Int32)) &&& 0x3f).toInt64.toUInt64.toBitVec % 64).toNat = n % 64 ∧ 0 ≤ (Int32.ofNat (n / 64)).toInt ∧ (Int32.ofNat (n / 64)).toInt < 4 := by decide +kernel
theorem bit_e (w : Int64) (s : UInt64) (k : Nat) (hs : (s.toBitVec % 64).toNat = k) : ((w.toUInt64 >>> s).toInt64 &&& (1 : Int64)).toInt32 = if w.toBitVec.getLsbD k then 1 else 0 := by
  have e : ((w.toUInt64 >>> s).toInt64 &&& (1 : Int64)) = if w.toBitVec.getLsbD k then 1 else 0 := by
    apply Int64.toBitVec_inj.mp
    have e1 : ((w.toUInt64 >>> s).toInt64 &&& (1 : Int64)).toBitVec = (w.toBitVec >>> k) &&& 1#64 := by
      rw [Int64.toBitVec_and]
      congr 1
      show (w.toUInt64 >>> s).toBitVec = _
      rw [UInt64.toBitVec_shiftRight, BitVec.ushiftRight_eq', hs]; rfl
    rw [e1]
    apply BitVec.eq_of_getLsbD_eq
    intro i hi
    rw [BitVec.getLsbD_and, BitVec.getLsbD_ushiftRight]
    by_cases c : i = 0
    · subst c
      cases h : w.toBitVec.getLsbD k
      · simp [h]
      · simp [h]
    · have c1 : (1#64).getLsbD i = false := by
        rw [BitVec.getLsbD_one]; simp [c]
      rw [c1, Bool.and_false]
      cases h : w.toBitVec.getLsbD k
      · simp
      · show false = (1#64).getLsbD i
        rw [c1]
  rw [e]
  cases w.toBitVec.getLsbD k <;> rfl
theorem ev_e (ob : Rec) (m : Nat) (hm : m < 256) (c : gI ob 2 = 1) (h7 : gI ob 7 = 1) : X_evaluate 400 ob (Int32.ofNat m) = some (if tb (gJ ob 3) m then 1 else 0, ob) := by
  obtain ⟨e1, e2, e3, e4⟩ := ixs m (List.mem_range.mpr hm)
  have o : (Int32.ofNat m).toInt = m := Int32.toInt_ofNat_of_lt (by omega)
  have t255' : (255 : Int32).toInt = 255 := rfl
  have ev : X_ensureTableF 400 ob = some ob := by unfold X_ensureTableF; rw [h7, if_neg (by decide)]
  unfold X_evaluate X_bitOfF
  rw [if_neg (by rw [lt_i, t0, o]; omega), if_neg (by rw [lt_i, t255', o]; omega), co_1 c, Option.bind_some, if_neg (by decide), ev, Option.bind_some, e1, chk_ok (by rw [t4]; exact ⟨e3, e4⟩), Option.bind_some, bit_e _ _ (m % 64) e2]
  rfl
/- fields of a long: the w bits at p hold v -/
def fb (l : Int64) (p w : Nat) (v : Int32) : Prop := ∀ i, i < w → l.toBitVec.getLsbD (p + i) = v.toBitVec.getLsbD i
theorem v_hi {v : Int32} {w : Nat} (h : 0 ≤ v.toInt ∧ v.toInt < 2 ^ w) (hw : w ≤ 30) (i : Nat) (hi : w ≤ i) : v.toBitVec.getLsbD i = false := by
  have e : v.toBitVec.toNat < 2 ^ w := by
    have h1 : v.toInt = v.toBitVec.toInt := rfl
    have h2 := v.toBitVec.isLt
    have hp : (2 : Nat) ^ w ≤ 2 ^ 30 := Nat.pow_le_pow_right (by omega) hw
    have hp' : ((2 ^ w : Nat) : Int) = 2 ^ w := by simp
    rw [h1, BitVec.toInt_eq_toNat_cond] at h
    split at h
    · omega
    · omega
  rw [← BitVec.testBit_toNat]
  exact Nat.testBit_lt_two_pow (Nat.lt_of_lt_of_le e (Nat.pow_le_pow_right (by omega) hi))
theorem v_64 {v : Int32} (h : 0 ≤ v.toInt) (i : Nat) : v.toInt64.toBitVec.getLsbD i = v.toBitVec.getLsbD i := by
  have m : v.toBitVec.msb = false := by
    cases c : v.toBitVec.msb
    · rfl
    · have : v.toBitVec.toInt < 0 := BitVec.toInt_neg_of_msb_true c
      have h1 : v.toInt = v.toBitVec.toInt := rfl
      omega
  show (v.toBitVec.signExtend 64).getLsbD i = _
  rw [BitVec.getLsbD_signExtend, m]
  by_cases c : i < 32
  · have c' : i < 64 := by omega
    simp [c, c']
  · rw [BitVec.getLsbD_of_ge v.toBitVec i (by omega)]; simp [c]
theorem fb_or (l : Int64) (v : Int32) (s : Int64) (p w : Nat) (hs : (s.toBitVec.smod 64).toNat = p) (hv : 0 ≤ v.toInt ∧ v.toInt < 2 ^ w) (hw : w ≤ 30) (hp : p + w ≤ 64) : (fb l p w 0 → fb (l ||| (v.toInt64 <<< s)) p w v) ∧ (∀ p' v', fb l p' w v' → (p' + w ≤ p ∨ p + w ≤ p') → fb (l ||| (v.toInt64 <<< s)) p' w v') ∧ (∀ b, p + w ≤ b → (l ||| (v.toInt64 <<< s)).toBitVec.getLsbD b = l.toBitVec.getLsbD b) := by
  have e : ∀ b, (l ||| (v.toInt64 <<< s)).toBitVec.getLsbD b = (l.toBitVec.getLsbD b || (decide (b < 64) && !decide (b < p) && v.toBitVec.getLsbD (b - p))) := by
    intro b
    rw [Int64.toBitVec_or, BitVec.getLsbD_or, Int64.toBitVec_shiftLeft, BitVec.shiftLeft_eq', hs, BitVec.getLsbD_shiftLeft, v_64 hv.1]
  have z0 : ∀ i, (0 : Int32).toBitVec.getLsbD i = false := fun i => by
    show (0#32).getLsbD i = false
    simp
  have far : ∀ b, (b < p ∨ p + w ≤ b) → (l ||| (v.toInt64 <<< s)).toBitVec.getLsbD b = l.toBitVec.getLsbD b := by
    intro b hb
    rw [e]
    rcases hb with h | h
    · simp [h]
    · rw [v_hi hv hw (b - p) (by omega)]; simp
  refine ⟨fun h0 i hi => ?_, fun p' v' h' hd i hi => ?_, fun b hb => far b (Or.inr hb)⟩
  · have c1 : p + i < 64 := by omega
    have c2 : ¬ p + i < p := by omega
    have c3 : p + i - p = i := by omega
    rw [e, h0 i hi, z0, c3]
    simp [c1, c2]
  · rw [far (p' + i) (by omega)]; exact h' i hi
theorem fb_clr (l : Int64) (m s : Int64) (p w : Nat) (hs : (s.toBitVec.smod 64).toNat = p) (hm : ∀ i, m.toBitVec.getLsbD i = decide (i < w)) (hp : p + w ≤ 64) : fb (l &&& ((m <<< s) ^^^ -1)) p w 0 ∧ (∀ p' v', fb l p' w v' → (p' + w ≤ p ∨ p + w ≤ p') → p' + w ≤ 64 → fb (l &&& ((m <<< s) ^^^ -1)) p' w v') := by
  have a1 : (-1 : Int64).toBitVec = BitVec.allOnes 64 := by decide
  have e : ∀ b, b < 64 → (l &&& ((m <<< s) ^^^ -1)).toBitVec.getLsbD b = (l.toBitVec.getLsbD b && !(!decide (b < p) && decide (b - p < w))) := by
    intro b hb
    rw [Int64.toBitVec_and, BitVec.getLsbD_and, Int64.toBitVec_xor, BitVec.getLsbD_xor, a1, BitVec.getLsbD_allOnes, Int64.toBitVec_shiftLeft, BitVec.shiftLeft_eq', hs, BitVec.getLsbD_shiftLeft, hm]
    simp [hb]
  refine ⟨fun i hi => ?_, fun p' v' h' hd h64 i hi => ?_⟩
  · have c1 : p + i < 64 := by omega
    have c2 : ¬ p + i < p := by omega
    have c3 : p + i - p = i := by omega
    rw [e _ c1, c3]
    show _ = (0#32).getLsbD i
    simp [c2, hi]
  · have c1 : p' + i < 64 := by omega
    rw [e _ c1, h' i hi]
    rcases hd with h | h
    · have c : p' + i < p := by omega
      simp [c]
    · have c : ¬ p' + i - p < w := by omega
      simp [c]
theorem fb_get (l m : Int64) (s : UInt64) (v : Int32) (p w : Nat) (hs : (s.toBitVec % 64).toNat = p) (hm : ∀ i, m.toBitVec.getLsbD i = decide (i < w)) (hv : 0 ≤ v.toInt ∧ v.toInt < 2 ^ w) (hw : w ≤ 30) (h : fb l p w v) : ((l.toUInt64 >>> s).toInt64 &&& m).toInt32 = v := by
  apply Int32.toBitVec_inj.mp
  have e1 : ((l.toUInt64 >>> s).toInt64 &&& m).toBitVec = (l.toBitVec >>> p) &&& m.toBitVec := by
    rw [Int64.toBitVec_and]
    congr 1
    show (l.toUInt64 >>> s).toBitVec = _
    rw [UInt64.toBitVec_shiftRight, BitVec.ushiftRight_eq', hs]; rfl
  show ((l.toUInt64 >>> s).toInt64 &&& m).toBitVec.signExtend 32 = _
  rw [e1]
  apply BitVec.eq_of_getLsbD_eq
  intro i hi
  rw [BitVec.getLsbD_signExtend, BitVec.getLsbD_and, BitVec.getLsbD_ushiftRight, hm]
  have c64 : i < 64 := by omega
  by_cases c : i < w
  · rw [h i c]; simp [hi, c, c64]
  · rw [v_hi hv hw i (by omega)]; simp [c, c64]
theorem fb0 (p w : Nat) : fb 0 p w 0 := by
  intro i _
  show (0#64).getLsbD (p + i) = (0#32).getLsbD i
  simp
theorem fb_inj {l : Int64} {p w : Nat} {v v' : Int32} (hw : w ≤ 30) (hv : 0 ≤ v.toInt ∧ v.toInt < 2 ^ w) (hv' : 0 ≤ v'.toInt ∧ v'.toInt < 2 ^ w) (h : fb l p w v) (h' : fb l p w v') : v = v' := by
  apply Int32.toBitVec_inj.mp
  apply BitVec.eq_of_getLsbD_eq
  intro i hi
  by_cases c : i < w
  · rw [← h i c, h' i c]
  · rw [v_hi hv hw i (by omega), v_hi hv' hw i (by omega)]
-- USE: fa sat satd lowb fld
theorem ofN {k : Nat} (h : k ≤ 1000) : (Int32.ofNat k).toInt = k := Int32.toInt_ofNat_of_lt (by omega)
theorem ofI {i : Int32} (h : 0 ≤ i.toInt ∧ i.toInt ≤ 1000) : Int32.ofNat i.toInt.toNat = i := by
  rw [eq_i32, ofN (by omega)]; omega
theorem bind2_p {α β γ : Type} (p : α × β) (f : α → β → Option γ) : bind2 (some p) f = f p.1 p.2 := rfl
def nib (l : Int64) (j : Int32) : Int32 := (((l.toUInt64 >>> (((4 : Int32) * j) &&& 0x3f).toInt64.toUInt64).toInt64) &&& (15 : Int64)).toInt32
theorem pos4 : ∀ n ∈ List.range 8, ((((4 : Int32) * Int32.ofNat n) &&& 0x3f).toInt64.toUInt64.toBitVec % 64).toNat = 4 * n ∧ ((((4 : Int32) * Int32.ofNat n) &&& 0x3f).toInt64.toBitVec.smod 64).toNat = 4 * n := by decide +kernel
theorem m15 (i : Nat) : (15 : Int64).toBitVec.getLsbD i = decide (i < 4) := by
  have h : ∀ i ∈ List.range 64, (15 : Int64).toBitVec.getLsbD i = decide (i < 4) := by decide +kernel
  by_cases c : i < 64
  · exact h i (List.mem_range.mpr c)
  · rw [BitVec.getLsbD_of_ge _ i (by omega)]
    have : ¬ i < 4 := by omega
    simp [this]
abbrev N16 (t : Int32) : Prop := 0 ≤ t.toInt ∧ t.toInt < 2 ^ 4
theorem nib_e {l : Int64} {n : Nat} {t : Int32} (hn : n < 8) (ht : N16 t) (h : fb l (4 * n) 4 t) : nib l (Int32.ofNat n) = t := fb_get l 15 _ t (4 * n) 4 (pos4 n (List.mem_range.mpr hn)).1 m15 ht (by omega) h
/-- the long l holds the n tokens of ob -/
def TK (ob : Rec) (n : Nat) (l : Int64) : Prop := ∀ j : Nat, j < 8 → (j < n → N16 (gA ob 0 (Int32.ofNat j)) ∧ fb l (4 * j) 4 (gA ob 0 (Int32.ofNat j))) ∧ (¬ j < n → fb l (4 * j) 4 0)
/-- the saved table is that of the tokens in l9 -/
def SV (ob : Rec) (sl : Int32) (l9 : Int64) : Prop := (0 ≤ sl.toInt ∧ sl.toInt ≤ 8) ∧ ∃ g : Nat → Int32, (∀ j : Nat, j < sl.toInt.toNat → N16 (g j) ∧ fb l9 (4 * j) 4 (g j)) ∧ ∀ o' : Rec, gI o' 1 = sl → (∀ j : Nat, j < sl.toInt.toNat → gA o' 0 (Int32.ofNat j) = g j) → gI o' 7 = 0 → ∃ q', X_ensureTableF 400 o' = some q' ∧ ∀ j : Int32, 0 ≤ j.toInt → j.toInt < 4 → gJ q' 3 j = gJ ob 4 j
def St (ob : Rec) : Prop := gI ob 0 = 8 ∧ (0 ≤ (gI ob 1).toInt ∧ (gI ob 1).toInt ≤ 8) ∧ (gI ob 7 = 0 ∨ gI ob 7 = 1) ∧ Val ob
def J (ob : Rec) (n d sl er ew : Int32) (l7 l9 : Int64) (hs : Int32) : Prop := St ob ∧ gI ob 1 = n ∧ gI ob 2 = d ∧ gI ob 5 = er ∧ gI ob 6 = ew ∧ gI ob 4 = hs ∧ ((hs = 0 ∧ sl = 0) ∨ (hs = 1 ∧ gI ob 3 = sl ∧ SV ob sl l9)) ∧ TK ob n.toInt.toNat l7
theorem TK.c {ob q : Rec} {n : Nat} {l : Int64} (h : TK ob n l) (e : ∀ j : Nat, j < n → j < 8 → gA q 0 (Int32.ofNat j) = gA ob 0 (Int32.ofNat j)) : TK q n l := by
  intro j hj
  refine ⟨fun c => ?_, (h j hj).2⟩
  rw [e j c hj]; exact (h j hj).1 c
theorem SV.c {ob q : Rec} {sl : Int32} {l9 : Int64} (h : SV ob sl l9) (e : ∀ x, gJ q 4 x = gJ ob 4 x) : SV q sl l9 := by
  obtain ⟨a, g, b, c⟩ := h
  refine ⟨a, g, b, fun o' h1 h2 h3 => ?_⟩
  obtain ⟨q', eq, f⟩ := c o' h1 h2 h3
  exact ⟨q', eq, fun j j0 j1 => by rw [f j j0 j1, e]⟩
/-- used variables, both ways -/
def U (ob : Rec) : Nat → Nat → Int32 → Int32
  | 0, _, acc => acc
  | d + 1, i, acc => U ob d (i + 1) (if gA ob 0 (Int32.ofNat i) < 8 then acc ||| ((1 : Int32) <<< (gA ob 0 (Int32.ofNat i) &&& 31)) else acc)
theorem nxt (i : Nat) (h : i < 900) : Int32.ofNat i + 1 = Int32.ofNat (i + 1) := by
  rw [eq_i32, succ8 (by rw [ofN (by omega)]; omega), ofN (by omega), ofN (by omega)]; omega
theorem uvX (ob : Rec) (n : Nat) (hn : n ≤ 8) (e1 : (gI ob 1).toInt = n) (hr : ∀ j : Nat, j < n → N16 (gA ob 0 (Int32.ofNat j))) : ∀ (d fuel i : Nat) (acc : Int32), d < fuel → i + d = n → X_usedVars_l4 400 ob fuel acc (Int32.ofNat i) = some (U ob d i acc) := by
  intro d
  induction d with
  | zero =>
    intro fuel i acc hf hi
    obtain ⟨f, rfl⟩ : ∃ n, fuel = n + 1 := ⟨fuel - 1, by omega⟩
    show X_usedVars_w4 400 ob _ acc (Int32.ofNat i) = _
    unfold X_usedVars_w4; rw [if_neg (by rw [lt_i, ofN (by omega)]; omega)]; rfl
  | succ d ih =>
    intro fuel i acc hf hi
    obtain ⟨f, rfl⟩ : ∃ n, fuel = n + 1 := ⟨fuel - 1, by omega⟩
    have o := ofN (k := i) (by omega)
    have h0 := (hr i (by omega)).1
    show X_usedVars_w4 400 ob _ acc (Int32.ofNat i) = some (U ob d (i + 1) _)
    unfold X_usedVars_w4
    rw [if_pos (by rw [lt_i, o]; omega), if_pos (by rw [lt_i, o, t32]; omega), chk_ok (by rw [o, t32]; omega), if_neg (by rw [lt_i, t0]; omega), nxt i (by omega), ← ih f (i + 1) _ (by omega) (by omega)]
    split <;> rfl
theorem uvL (ob : Rec) (n : Nat) (hn : n ≤ 8) (l : Int64) (nI : Int32) (e1 : nI.toInt = n) (ht : TK ob n l) : ∀ (d fuel i : Nat) (acc : Int32), d < fuel → i + d = 8 → L_usedOf_l5 400 fuel l nI acc (Int32.ofNat i) = some (U ob (n - i) i acc) := by
  intro d
  induction d with
  | zero =>
    intro fuel i acc hf hi
    obtain ⟨f, rfl⟩ : ∃ n, fuel = n + 1 := ⟨fuel - 1, by omega⟩
    show L_usedOf_w5 400 _ l nI acc (Int32.ofNat i) = _
    unfold L_usedOf_w5; rw [if_neg (by rw [lt_i, ofN (by omega), t8]; omega), show n - i = 0 by omega]; rfl
  | succ d ih =>
    intro fuel i acc hf hi
    obtain ⟨f, rfl⟩ : ∃ n, fuel = n + 1 := ⟨fuel - 1, by omega⟩
    have o := ofN (k := i) (by omega)
    show L_usedOf_w5 400 _ l nI acc (Int32.ofNat i) = _
    unfold L_usedOf_w5
    rw [if_pos (by rw [lt_i, o, t8]; omega), nxt i (by omega)]
    by_cases c : i < n
    · obtain ⟨k, hk⟩ : ∃ k, n - i = k + 1 := ⟨n - i - 1, by omega⟩
      have hk' : n - (i + 1) = k := by omega
      have tk := (ht i (by omega)).1 c
      have nb : (((l.toUInt64 >>> (((4 : Int32) * Int32.ofNat i) &&& 0x3f).toInt64.toUInt64).toInt64) &&& (15 : Int64)).toInt32 = gA ob 0 (Int32.ofNat i) := nib_e (by omega) tk.1 tk.2
      rw [if_pos (by rw [lt_i, o]; omega), nb, hk, ih f (i + 1) _ (by omega) (by omega), ih f (i + 1) _ (by omega) (by omega), hk']
      show _ = some (U ob k (i + 1) _)
      split <;> rfl
    · rw [if_neg (by rw [lt_i, o]; omega), ih f (i + 1) _ (by omega) (by omega), show n - (i + 1) = 0 by omega, show n - i = 0 by omega]; rfl
theorem b622 (z : Int32) (f : Int32 → Int32) (k34 : Rec → Int32 → Int32 → Int32 → Int32 → Int32 → Int64 → Int64 → Int32 → Int32 → Option Int32) (ob : Rec) (n d sl er ew : Int32) (l7 l9 : Int64) (hs i12 : Int32) (h : J ob n d sl er ew l7 l9 hs) (hk : k34 ob n d sl er ew l7 l9 hs (i12 + 2) = some 1) : L_law_b622 400 z f k34 ob n d sl er ew l7 l9 hs i12 = some 1 := by
  obtain ⟨⟨c0, cn, c7, cv⟩, h1, h2, h5, h6, h4, hS, hT⟩ := h
  rw [h1] at cn
  have on := ofI (i := n) (by omega)
  have uX := uvX ob n.toInt.toNat (by omega) (by rw [h1]; omega) (fun j hj => ((hT j (by omega)).1 hj).1) n.toInt.toNat 400 0 0 (by omega) (by omega)
  have uL := uvL ob n.toInt.toNat (by omega) l7 n (by omega) hT 8 400 0 0 (by omega) (by omega)
  have uX' : X_usedVars 400 ob = some (U ob n.toInt.toNat 0 0) := uX
  have uL' : L_usedOf 400 l7 n = some (U ob n.toInt.toNat 0 0) := uL
  have sv : X_savedLength ob = some sl := by
    unfold X_savedLength
    rcases hS with ⟨a, b⟩ | ⟨a, b, -⟩
    · rw [if_pos (h4.trans a), b]
    · rw [if_neg (by rw [h4, a]; decide), b]
  have ta : X_tokenAt ob n = some (-1) := by
    unfold X_tokenAt; rw [h1]
    by_cases c : n < 0
    · rw [if_pos c]
    · rw [if_neg c, if_neg (by rw [lt_i]; omega)]
  have fin : ∀ t0 t1 : Int32, t0 = t1 → L_law_b652 400 z f k34 ob n d sl er ew l7 l9 hs i12 t0 t1 = some 1 := by
    intro u v e
    unfold L_law_b652 X_lastResult X_witness
    rw [if_pos e, sv, Option.bind_some, if_pos rfl, Option.bind_some, if_pos h5, Option.bind_some, if_pos h6, uX', uL', Option.bind_some, Option.bind_some, if_pos rfl, ta, Option.bind_some, if_pos rfl]
    by_cases c : 0 < n
    · have c' := lt_i.mp c
      rw [t0] at c'
      have em : (n - 1).toInt = n.toInt - 1 := by rw [sb (by rw [t1]; omega), t1]
      have om := ofI (i := n - 1) (by omega)
      have tk := (hT (n - 1).toInt.toNat (by omega)).1 (by omega)
      have nb := nib_e (l := l7) (n := (n - 1).toInt.toNat) (by omega) tk.1 tk.2
      rw [om] at nb
      have ta1 : X_tokenAt ob (n - 1) = some (gA ob 0 (n - 1)) := by
        unfold X_tokenAt
        rw [if_neg (by rw [lt_i, t0]; omega), h1, if_pos (by rw [lt_i]; omega), chk_ok (by rw [t32]; omega)]
      have nb' : gA ob 0 (n - 1) = (((l7.toUInt64 >>> (((4 : Int32) * (n - (1 : Int32))) &&& 0x3f).toInt64.toUInt64).toInt64) &&& (15 : Int64)).toInt32 := nb.symm
      rw [if_pos c, ta1, Option.bind_some, if_pos nb']; exact hk
    · rw [if_neg c]; exact hk
  unfold L_law_b622 X_length X_depth X_isComplete X_completeF
  rw [Option.bind_some, if_pos h1, Option.bind_some, if_pos h2]
  by_cases c : d = 1
  · rw [if_pos (h2.trans c), Option.bind_some, Option.bind_some, if_pos c]; exact fin _ _ (by decide)
  · rw [if_neg (fun e => c (h2.symm.trans e)), Option.bind_some, Option.bind_some, if_neg c]; exact fin _ _ (by decide)
theorem lar (t : Int32) : L_ar t = some (ar t) := by
  have t10 : (10 : Int32).toInt = 10 := rfl
  unfold L_ar ar
  by_cases c : t < 10
  · rw [if_pos c, if_neg (by rw [lt_i, t10] at c; rw [lt_i, t9]; omega)]
  · have c9 : 9 < t := by rw [lt_i, t10] at c; rw [lt_i, t9]; omega
    by_cases e : t = 10
    · rw [if_neg c, if_pos e, if_pos c9, if_pos e]
    · rw [if_neg c, if_neg e, if_pos c9, if_neg e]
theorem addsub (x y : Int32) : x + (1 - y) = x + 1 - y := by
  apply Int32.toBitVec_inj.mp
  simp only [Int32.toBitVec_add, Int32.toBitVec_sub]
  apply BitVec.eq_of_toNat_eq
  simp only [BitVec.toNat_sub, BitVec.toNat_add]
  have := x.toBitVec.isLt
  have := y.toBitVec.isLt
  have e1 : (1 : Int32).toBitVec.toNat = 1 := rfl
  rw [e1]
  omega
theorem subm (x : Int32) : x + -1 = x - 1 := by rw [Int32.sub_eq_add_neg]
/-- a push that is taken -/
theorem J_pu {ob : Rec} {n d sl er ew : Int32} {l7 l9 : Int64} {hs : Int32} (h : J ob n d sl er ew l7 l9 hs) (t : Int32) (ht : N16 t) (hn : n.toInt < 8) : J (pu ob t) (n + 1) (d + (1 - ar t)) sl 0 (-1) (l7 ||| (t.toInt64 <<< (((4 : Int32) * n) &&& 0x3f).toInt64)) l9 hs := by
  obtain ⟨⟨c0, cn, c7, cv⟩, h1, h2, h5, h6, h4, hS, hT⟩ := h
  have cn' := cn
  rw [h1] at cn'
  have e := succ8 (i := n) (by omega)
  have on := ofI (i := n) (by omega)
  obtain ⟨m, hm⟩ : ∃ m : Nat, n.toInt.toNat = m := ⟨_, rfl⟩
  rw [hm] at on hT
  have hm8 : m < 8 := by omega
  have e1 : (n + 1).toInt.toNat = m + 1 := by omega
  obtain ⟨o1, o2, -⟩ := fb_or l7 t (((4 : Int32) * n) &&& 0x3f).toInt64 (4 * m) 4 (by rw [← on]; exact (pos4 m (List.mem_range.mpr hm8)).2) ht (by omega) (by omega)
  refine ⟨⟨c0, ?_, Or.inl rfl, val0 rfl⟩, ?_, ?_, rfl, rfl, h4, ?_, ?_⟩
  · show 0 ≤ (gI ob 1 + 1).toInt ∧ (gI ob 1 + 1).toInt ≤ 8
    rw [h1]; omega
  · show gI ob 1 + 1 = n + 1
    rw [h1]
  · show gI ob 2 + 1 - ar t = _
    rw [h2, addsub]
  · rcases hS with a | ⟨a, b, s⟩
    · exact Or.inl a
    · exact Or.inr ⟨a, b, s.c (fun x => rfl)⟩
  · rw [e1]
    intro j hj
    have pj : gA (pu ob t) 0 (Int32.ofNat j) = if j = m then t else gA ob 0 (Int32.ofNat j) := by
      rw [pu_a, h1, ← on]
      by_cases c : j = m
      · rw [if_pos c, if_pos (by rw [c])]
      · rw [if_neg c, if_neg (fun x => c ?_)]
        have u := ofN (k := j) (by omega)
        rw [x, ofN (by omega)] at u
        omega
    refine ⟨fun c => ?_, fun c => ?_⟩
    · rw [pj]
      by_cases cm : j = m
      · rw [if_pos cm, cm]
        exact ⟨ht, o1 ((hT m hm8).2 (by omega))⟩
      · rw [if_neg cm]
        have u := (hT j hj).1 (by omega)
        exact ⟨u.1, o2 _ _ u.2 (by omega)⟩
    · exact o2 _ _ ((hT j hj).2 (by omega)) (by omega)
theorem J_rm {ob : Rec} {n d sl er ew : Int32} {l7 l9 : Int64} {hs : Int32} (h : J ob n d sl er ew l7 l9 hs) (hn : 0 < n.toInt) : X_removeLast ob = some (0, rm ob) ∧ nib l7 (n + -1) = gA ob 0 (n - 1) ∧ J (rm ob) (n + -1) (d - (1 - ar (gA ob 0 (n - 1)))) sl 0 (-1) (l7 &&& (((15 : Int64) <<< (((4 : Int32) * (n + -1)) &&& 0x3f).toInt64) ^^^ (-1 : Int64))) l9 hs := by
  obtain ⟨⟨c0, cn, c7, cv⟩, h1, h2, h5, h6, h4, hS, hT⟩ := h
  have cn' := cn
  rw [h1] at cn'
  have em : (n - 1).toInt = n.toInt - 1 := by rw [sb (by rw [t1]; omega), t1]
  have om := ofI (i := n - 1) (by omega)
  obtain ⟨m, hm⟩ : ∃ m : Nat, (n - 1).toInt.toNat = m := ⟨_, rfl⟩
  rw [hm] at om
  have nm : n.toInt.toNat = m + 1 := by omega
  rw [nm] at hT
  have hm8 : m < 8 := by omega
  rw [subm]
  have tk := (hT m hm8).1 (by omega)
  have nb := nib_e (l := l7) (n := m) hm8 tk.1 tk.2
  rw [om] at nb
  obtain ⟨o1, o2⟩ := fb_clr l7 15 (((4 : Int32) * (n - 1)) &&& 0x3f).toInt64 (4 * m) 4 (by rw [← om]; exact (pos4 m (List.mem_range.mpr hm8)).2) m15 (by omega)
  refine ⟨?_, nb, ⟨c0, ?_, Or.inl rfl, val0 rfl⟩, ?_, ?_, rfl, rfl, h4, ?_, ?_⟩
  · unfold X_removeLast X_resetResult
    rw [h1, if_pos (by rw [lt_i, t0]; omega), chk_ok (by rw [t32]; omega), ar_e, Option.bind_some, Option.bind_some]
    unfold rm; rw [h1]
  · show 0 ≤ (gI ob 1 - 1).toInt ∧ (gI ob 1 - 1).toInt ≤ 8
    rw [h1]; omega
  · show gI ob 1 - 1 = _
    rw [h1]
  · show gI ob 2 - (1 - ar (gA ob 0 (gI ob 1 - 1))) = _
    rw [h1, h2]
  · rcases hS with a | ⟨a, b, s⟩
    · exact Or.inl a
    · exact Or.inr ⟨a, b, s.c (fun x => rfl)⟩
  · rw [hm]
    intro j hj
    refine ⟨fun c => ?_, fun c => ?_⟩
    · have u := (hT j hj).1 (by omega)
      exact ⟨u.1, o2 _ _ u.2 (by omega) (by omega)⟩
    · by_cases cm : j = m
      · rw [cm]; exact o1
      · exact o2 _ _ ((hT j hj).2 (by omega)) (by omega) (by omega)
theorem ens_s {ob : Rec} (h : St ob) : ∃ q, X_ensureTableF 400 ob = some q ∧ Kt ob q ∧ Val q := ens ob (by have := h.2.1; omega) h.2.2.1 h.2.2.2
/-- what a query leaves -/
theorem J_rs {ob q : Rec} {n d sl er ew : Int32} {l7 l9 : Int64} {hs : Int32} (h : J ob n d sl er ew l7 l9 hs) (k : Kt ob q) (v : Val q) (f : Int32 → Int64) (y w : Int32) : J (rs q f y w).2 n d sl (rs q f y w).1 (if fsv f < 0 then -1 else fsv f) l7 l9 hs ∧ gI (rs q f y w).2 7 = 1 ∧ (∀ x, gJ (rs q f y w).2 3 x = gJ q 3 x) := by
  obtain ⟨⟨c0, cn, c7, cv⟩, h1, h2, h5, h6, h4, hS, hT⟩ := h
  have ip : ∀ j, ¬ j = 5 → ¬ j = 6 → gI (rs q f y w).2 j = gI q j := fun j c5 c6 => by
    show gI (sI (sI (S4 q 5 f) 5 _) 6 _) j = _
    rw [gI_sI, if_neg c6, gI_sI, if_neg c5]; rfl
  have iq : ∀ j, ¬ j = 5 → ¬ j = 6 → ¬ j = 7 → gI (rs q f y w).2 j = gI ob j := fun j a b c => (ip j a b).trans (k.1 j c)
  have aq : ∀ x, gA (rs q f y w).2 0 x = gA ob 0 x := fun x => k.a 0 x
  have jq : ∀ x, gJ (rs q f y w).2 3 x = gJ q 3 x := fun x => S4_k q 5 3 f x (by decide)
  have j4 : ∀ x, gJ (rs q f y w).2 4 x = gJ ob 4 x := fun x => (S4_k q 5 4 f x (by decide)).trans (k.2.2.2 4 x (by decide) (by decide))
  have i7 : gI (rs q f y w).2 7 = 1 := (ip 7 (by decide) (by decide)).trans k.2.1
  have i1 := iq 1 (by decide) (by decide) (by decide)
  refine ⟨⟨⟨(iq 0 (by decide) (by decide) (by decide)).trans c0, by rw [i1]; exact cn, Or.inr i7, val_c v (ip 7 (by decide) (by decide)) (ip 1 (by decide) (by decide)) (fun x => rfl) jq⟩, i1.trans h1, (iq 2 (by decide) (by decide) (by decide)).trans h2, rfl, rfl, (iq 4 (by decide) (by decide) (by decide)).trans h4, ?_, hT.c (fun j _ _ => aq _)⟩, i7, jq⟩
  rcases hS with a | ⟨a, b, s⟩
  · exact Or.inl a
  · exact Or.inr ⟨a, (iq 3 (by decide) (by decide) (by decide)).trans b, s.c j4⟩
theorem J_sv {ob : Rec} {n d sl er ew : Int32} {l7 l9 : Int64} {hs : Int32} (h : J ob n d sl er ew l7 l9 hs) (c : d = 1) : ∃ p, X_save 400 ob = some (0, p) ∧ J p n d n 0 (-1) l7 l7 1 := by
  obtain ⟨⟨c0, cn, c7, cv⟩, h1, h2, h5, h6, h4, hS, hT⟩ := h
  have cn' := cn
  rw [h1] at cn'
  obtain ⟨ca, eca, a1, a2, a3⟩ := ck_e ob (by omega)
  have iA : ∀ k, ¬ k = 3 → gI (sI ca 3 (gI ob 1)) k = gI ob k := fun k hk => by rw [gI_sI, if_neg hk]; unfold gI; rw [a1]
  have jA : ∀ k x, gJ (sI ca 3 (gI ob 1)) k x = gJ ob k x := fun k x => by unfold gJ; show ca.2.2 k x = _; rw [a3]
  have gA0 : ∀ x, gA (sI ca 3 (gI ob 1)) 0 x = gA ob 0 x := fun x => a2 0 x (by decide)
  have hs' : St (sI ca 3 (gI ob 1)) := ⟨(iA 0 (by decide)).trans c0, by rw [iA 1 (by decide)]; exact cn, by rw [iA 7 (by decide)]; exact c7, val_c cv (iA 7 (by decide)) (iA 1 (by decide)) gA0 (fun x => jA 3 x)⟩
  obtain ⟨q, e, k, v⟩ := ens_s hs'
  have ip : ∀ j, ¬ j = 4 → ¬ j = 5 → ¬ j = 6 → gI (sI (sI (sI (S4 q 4 (fun j => gJ q 3 j)) 4 1) 5 0) 6 (-1)) j = gI q j := fun j c4 c5 c6 => by rw [gI_sI, if_neg c6, gI_sI, if_neg c5, gI_sI, if_neg c4]; rfl
  have i1 : gI (sI (sI (sI (S4 q 4 (fun j => gJ q 3 j)) 4 1) 5 0) 6 (-1)) 1 = n := by rw [ip 1 (by decide) (by decide) (by decide), k.1 1 (by decide), iA 1 (by decide)]; exact h1
  have i7 := ip 7 (by decide) (by decide) (by decide)
  have aq : ∀ x, gA (sI (sI (sI (S4 q 4 (fun j => gJ q 3 j)) 4 1) 5 0) 6 (-1)) 0 x = gA ob 0 x := fun x => (k.a 0 x).trans (gA0 x)
  refine ⟨sI (sI (sI (S4 q 4 (fun j => gJ q 3 j)) 4 1) 5 0) 6 (-1), ?_, ⟨?_, ?_, Or.inr (i7.trans k.2.1), val_c v i7 (ip 1 (by decide) (by decide) (by decide)) (fun x => rfl) (fun x => S4_k q 4 3 _ x (by decide))⟩, i1, ?_, rfl, rfl, rfl, Or.inr ⟨rfl, ?_, ?_, fun j => gA ob 0 (Int32.ofNat j), fun j hj => (hT j (by omega)).1 hj, fun o' o1 ot o7 => ?_⟩, hT.c (fun j _ _ => aq _)⟩
  · unfold X_save; rw [co_1 (h2.trans c), Option.bind_some, if_neg (by decide), eca, Option.bind_some, e, Option.bind_some, ct_e, Option.bind_some]; rfl
  · rw [ip 0 (by decide) (by decide) (by decide), k.1 0 (by decide), iA 0 (by decide)]; exact c0
  · rw [i1]; exact cn'
  · rw [ip 2 (by decide) (by decide) (by decide), k.1 2 (by decide), iA 2 (by decide)]; exact h2
  · rw [ip 3 (by decide) (by decide) (by decide), k.1 3 (by decide)]; exact h1
  · exact cn'
  · obtain ⟨q', eq, f⟩ := v k.2.1 o' (by rw [k.1 1 (by decide), iA 1 (by decide), h1]; exact o1) (fun x x0 x1 => by
      rw [k.1 1 (by decide), iA 1 (by decide), h1] at x1
      rw [k.a, gA0]
      have u := ot x.toInt.toNat (by omega)
      have u' : gA o' 0 (Int32.ofNat x.toInt.toNat) = gA ob 0 (Int32.ofNat x.toInt.toNat) := u
      rw [ofI (by omega)] at u'
      exact u') o7
    exact ⟨q', eq, fun j j0 j1 => (f j j0 j1).trans (S4_j q 4 (fun j => gJ q 3 j) j j0 j1).symm⟩
theorem AB (ob : Rec) (c : gI ob 2 = 1) (h7 : gI ob 7 = 1) (w : Nat) (hw : w ≤ 256) (v : Int32) (hb : ∀ m, m < w → (if tb (gJ ob 3) m then (1 : Int32) else 0) = v) : ∀ (d m fuel : Nat), d < fuel → m + d = 256 → L_allBefore_l2 400 fuel ob (Int32.ofNat w) v (Int32.ofNat m) = some (1, ob) := by
  have t256 : (256 : Int32).toInt = 256 := rfl
  intro d
  induction d with
  | zero =>
    intro m fuel hf hm
    obtain ⟨n, rfl⟩ : ∃ n, fuel = n + 1 := ⟨fuel - 1, by omega⟩
    show L_allBefore_w2 400 _ ob (Int32.ofNat w) v (Int32.ofNat m) = _
    unfold L_allBefore_w2; rw [if_neg (by rw [lt_i, ofN (by omega), t256]; omega)]
  | succ d ih =>
    intro m fuel hf hm
    obtain ⟨n, rfl⟩ : ∃ n, fuel = n + 1 := ⟨fuel - 1, by omega⟩
    have o := ofN (k := m) (by omega)
    show L_allBefore_w2 400 _ ob (Int32.ofNat w) v (Int32.ofNat m) = _
    unfold L_allBefore_w2
    rw [if_pos (by rw [lt_i, o, t256]; omega), nxt m (by omega)]
    by_cases cc : m < w
    · rw [if_pos (by rw [lt_i, o, ofN (by omega)]; omega), ev_e ob m (by omega) c h7, bind2_some, if_pos (hb m cc)]
      exact ih (m + 1) n (by omega) (by omega)
    · rw [if_neg (by rw [lt_i, o, ofN (by omega)]; omega)]
      exact ih (m + 1) n (by omega) (by omega)
theorem AB' (ob : Rec) (c : gI ob 2 = 1) (h7 : gI ob 7 = 1) (w : Nat) (hw : w ≤ 256) (v : Int32) (hb : ∀ m, m < w → (if tb (gJ ob 3) m then (1 : Int32) else 0) = v) : L_allBefore 400 ob (Int32.ofNat w) v = some (1, ob) := AB ob c h7 w hw v hb 256 0 400 (by omega) (by omega)
/-- prove and satisfy, checked mask by mask -/
theorem b423 (z : Int32) (f : Int32 → Int32) (k34 : Rec → Int32 → Int32 → Int32 → Int32 → Int32 → Int64 → Int64 → Int32 → Int32 → Option Int32) {ob q : Rec} {n d sl er ew : Int32} {l7 l9 : Int64} {hs : Int32} (i12 : Int32) (h : J ob n d sl er ew l7 l9 hs) (hd : d = 1) (k : Kt ob q) (v : Val q) (g : Int32 → Int64) (y w want : Int32) (hyw : ¬ w = y) (hg : ∀ m, m < 256 → (if tb (gJ q 3) m then (1 : Int32) else 0) = if tb g m then 1 - want else want) (hwant : want = 0 ∨ want = 1) (hk : ∀ p er ew, J p n d sl er ew l7 l9 hs → k34 p n d sl er ew l7 l9 hs (i12 + 2) = some 1) : L_law_b423 400 z f k34 (rs q g y w).2 n d sl l7 l9 hs i12 (rs q g y w).1 y w want = some 1 := by
  obtain ⟨hJ, i7, jq⟩ := J_rs h k v g y w
  have c2 : gI (rs q g y w).2 2 = 1 := hJ.2.2.1.trans hd
  have tq : ∀ m, tb (gJ (rs q g y w).2 3) m = tb (gJ q 3) m := fun m => by unfold tb; rw [jq]
  have w6 : gI (rs q g y w).2 6 = (if fsv g < 0 then -1 else fsv g) := rfl
  have t255' : (255 : Int32).toInt = 255 := rfl
  unfold L_law_b423 X_witness
  rw [Option.bind_some, w6]
  rcases fs_s g with ⟨n0, n1⟩ | ⟨u, u0, u1, u2, u3⟩
  · have r1 : (rs q g y w).1 = y := if_pos n0
    rw [if_pos n0] at hJ ⊢
    rw [r1] at hJ ⊢
    have ab := AB' _ c2 i7 256 (by omega) want (fun m hm => by rw [tq, hg m hm, n1 m hm]; rfl)
    have ab' : L_allBefore 400 (rs q g y w).2 256 want = some (1, (rs q g y w).2) := ab
    rw [if_pos rfl, if_pos rfl, ab', bind2_some, if_neg (by decide)]
    exact b622 z f k34 _ n d sl _ _ l7 l9 hs i12 hJ (hk _ _ _ hJ)
  · have ou : (Int32.ofNat u).toInt = u := ofN (by omega)
    have nn : ¬ fsv g < 0 := by rw [u1, lt_i, t0, ou]; omega
    have r1 : (rs q g y w).1 = w := if_neg nn
    rw [if_neg nn] at hJ ⊢
    rw [r1] at hJ ⊢
    have ab := AB' _ c2 i7 u (by omega) want (fun m hm => by rw [tq, hg m (by omega), u3 m hm]; rfl)
    have ev := ev_e (rs q g y w).2 u u0 c2 i7
    rw [tq, hg u u0, u2] at ev
    have ne : ¬ (if true = true then 1 - want else want) = want := by
      rcases hwant with rfl | rfl <;> decide
    rw [if_neg hyw, if_pos rfl, u1, if_neg (by rw [lt_i, t0, ou]; omega), if_neg (by rw [lt_i, t255', ou]; omega), ab, bind2_some, if_neg (by decide), ev, bind2_some, if_neg ne]
    rw [u1] at hJ
    exact b622 z f k34 _ n d sl _ _ l7 l9 hs i12 hJ (hk _ _ _ hJ)
theorem pr_e {ob q : Rec} (c : gI ob 2 = 1) (e : X_ensureTableF 400 ob = some q) : X_prove 400 ob = some (rs q (fun j => gJ q 3 j ^^^ -1) 1 2) := by
  unfold X_prove; rw [co_1 c, Option.bind_some, if_neg (by decide), e, Option.bind_some, ln_e, Option.bind_some, rs_eq]
theorem sa_e {ob q : Rec} (c : gI ob 2 = 1) (e : X_ensureTableF 400 ob = some q) : X_satisfy 400 ob = some (rs q (fun j => gJ q 3 j) 4 3) := by
  unfold X_satisfy; rw [co_1 c, Option.bind_some, if_neg (by decide), e, Option.bind_some, lf_e, Option.bind_some, rs_eq]
theorem eq_e {ob q : Rec} (c : gI ob 2 = 1) (d : ¬ gI ob 4 = 0) (e : X_ensureTableF 400 ob = some q) : X_equivalent 400 ob = some (rs q (fun j => gJ q 3 j ^^^ gJ q 4 j) 5 6) := by
  unfold X_equivalent; rw [co_1 c, Option.bind_some, if_neg (by decide), if_neg d, e, Option.bind_some, ld_e, Option.bind_some, rs_eq]
theorem fs0 : fsv (fun _ => 0) = -1 := by decide +kernel
theorem fa_and (x : Int32) : 0 ≤ (x &&& 65535).toInt := by
  have h1 : (x &&& 65535).toBitVec.toNat = x.toBitVec.toNat &&& (65535 : Int32).toBitVec.toNat := by rw [Int32.toBitVec_and, BitVec.toNat_and]
  have e : (65535 : Int32).toBitVec.toNat = 65535 := rfl
  have h2 : (x &&& 65535).toBitVec.toNat ≤ 65535 := by rw [h1, e]; exact Nat.and_le_right
  have h3 : (x &&& 65535).toInt = ((x &&& 65535).toBitVec.toNat : Int) := by
    show (x &&& 65535).toBitVec.toInt = _
    exact BitVec.toInt_eq_toNat_of_lt (by omega)
  rw [h3]; omega
theorem law_w (z : Int32) (f : Int32 → Int32) (k34 : Rec → Int32 → Int32 → Int32 → Int32 → Int32 → Int64 → Int64 → Int32 → Int32 → Option Int32) (ob : Rec) (n d sl er ew : Int32) (l7 l9 : Int64) (hs i12 : Int32) (h : J ob n d sl er ew l7 l9 hs) (hi : 0 ≤ i12.toInt ∧ i12.toInt ≤ 300) (hk : i12.toInt + 1 < z.toInt → ∀ p n d sl er ew l7 l9 hs, J p n d sl er ew l7 l9 hs → k34 p n d sl er ew l7 l9 hs (i12 + 2) = some 1) : L_law_w34 400 z f k34 ob n d sl er ew l7 l9 hs i12 = some 1 := by
  have e1 : (i12 + 1).toInt = i12.toInt + 1 := succ8 (by omega)
  unfold L_law_w34
  by_cases c : i12 + 1 < z
  · have c' := lt_i.mp c
    rw [e1] at c'
    have kk := hk c'
    have fin : ∀ p n d sl er ew l7 l9 hs, J p n d sl er ew l7 l9 hs → L_law_b622 400 z f k34 p n d sl er ew l7 l9 hs i12 = some 1 := fun p n d sl er ew l7 l9 hs hp => b622 z f k34 p n d sl er ew l7 l9 hs i12 hp (kk p n d sl er ew l7 l9 hs hp)
    obtain ⟨⟨c0, cn, c7, cv⟩, h1, h2, h5, h6, h4, hS, hT⟩ := id h
    rw [h1] at cn
    rw [if_pos c, chk_ok (by omega), chk_ok (by omega)]
    generalize f i12 &&& 15 = o
    by_cases g6 : 6 < o
    · rw [if_pos g6]
      by_cases g7 : o = 7
      · rw [if_pos g7]
        by_cases n0 : n = 0
        · have rl : X_removeLast ob = some (-4, ob) := by unfold X_removeLast; rw [h1, n0, if_neg (by decide)]
          rw [rl, bind2_some, if_pos n0, if_pos rfl]; exact fin _ _ _ _ _ _ _ _ _ h
        · have np : 0 < n.toInt := by
            have : n.toInt ≠ 0 := fun e => n0 (eq_i32.mpr e)
            omega
          obtain ⟨rl, nb, hJ⟩ := J_rm h np
          have nb' : (((l7.toUInt64 >>> (((4 : Int32) * (n + (-1 : Int32))) &&& 0x3f).toInt64.toUInt64).toInt64) &&& (15 : Int64)).toInt32 = gA ob 0 (n - 1) := nb
          rw [rl, bind2_some, if_neg n0, if_pos rfl, nb', lar, Option.bind_some]
          exact fin _ _ _ _ _ _ _ _ _ hJ
      · rw [if_neg g7]
        by_cases g8 : o = 8
        · rw [if_pos g8]
          have cl : ∃ p, X_clear ob = some p ∧ J p 0 0 sl 0 (-1) 0 l9 hs := by
            refine ⟨_, rfl, ⟨c0, by show 0 ≤ (0 : Int32).toInt ∧ (0 : Int32).toInt ≤ 8; decide, Or.inl rfl, val0 rfl⟩, rfl, rfl, rfl, rfl, h4, ?_, fun j hj => ⟨fun x => ?_, fun _ => fb0 _ _⟩⟩
            · rcases hS with a | ⟨a, b, s⟩
              · exact Or.inl a
              · exact Or.inr ⟨a, b, s.c (fun x => rfl)⟩
            · rw [t0] at x; exact absurd x (by omega)
          obtain ⟨p, ep, hJ⟩ := cl
          rw [ep, Option.bind_some]; exact fin _ _ _ _ _ _ _ _ _ hJ
        · rw [if_neg g8]
          by_cases g10 : 10 < o
          · rw [if_pos g10]
            by_cases g14 : 14 < o
            · rw [if_pos g14]
              by_cases d1 : d = 1
              · by_cases s0 : hs = 0
                · have eq : X_equivalent 400 ob = some (-6, ob) := by unfold X_equivalent; rw [co_1 (h2.trans d1), Option.bind_some, if_neg (by decide), if_pos (h4.trans s0)]
                  rw [eq, bind2_some, if_pos d1, if_pos s0]
                  unfold L_law_b542
                  rw [if_neg (by decide), if_pos rfl]; exact fin _ _ _ _ _ _ _ _ _ h
                · obtain ⟨q, e, k, v⟩ := ens_s h.1
                  have eq := eq_e (h2.trans d1) (by rw [h4]; exact s0) e
                  obtain ⟨hJ, i7, jq⟩ := J_rs h k v (fun j => gJ q 3 j ^^^ gJ q 4 j) 5 6
                  have w6 : gI (rs q (fun j => gJ q 3 j ^^^ gJ q 4 j) 5 6).2 6 = (if fsv (fun j => gJ q 3 j ^^^ gJ q 4 j) < 0 then -1 else fsv (fun j => gJ q 3 j ^^^ gJ q 4 j)) := rfl
                  rw [eq, bind2_p, if_pos d1, if_neg s0]
                  unfold L_law_b542 X_witness
                  rw [if_pos rfl, Option.bind_some, w6]
                  rcases fs_s (fun j => gJ q 3 j ^^^ gJ q 4 j) with ⟨m0, m1⟩ | ⟨u, u0, u1, u2, u3⟩
                  · have r1 : (rs q (fun j => gJ q 3 j ^^^ gJ q 4 j) 5 6).1 = 5 := if_pos m0
                    rw [if_pos m0] at hJ ⊢
                    rw [r1] at hJ ⊢
                    rw [if_pos rfl, if_pos rfl]; exact fin _ _ _ _ _ _ _ _ _ hJ
                  · have ou : (Int32.ofNat u).toInt = u := ofN (by omega)
                    have t255' : (255 : Int32).toInt = 255 := rfl
                    have nn : ¬ fsv (fun j => gJ q 3 j ^^^ gJ q 4 j) < 0 := by rw [u1, lt_i, t0, ou]; omega
                    have r1 : (rs q (fun j => gJ q 3 j ^^^ gJ q 4 j) 5 6).1 = 6 := if_neg nn
                    rw [if_neg nn] at hJ ⊢
                    rw [r1] at hJ ⊢
                    rw [if_neg (by decide), if_pos rfl, u1, if_neg (by rw [lt_i, t0, ou]; omega), if_neg (by rw [lt_i, t255', ou]; omega)]
                    rw [u1] at hJ
                    have good := fin _ _ _ _ _ _ _ _ _ hJ
                    by_cases l79 : l7 = l9
                    · by_cases nsl : n = sl
                      · exfalso
                        rcases hS with a | ⟨a, b, s⟩
                        · exact s0 a.1
                        · obtain ⟨sb', gg, sg, st⟩ := s
                          have tok : ∀ j : Nat, j < sl.toInt.toNat → gA (sI q 7 0) 0 (Int32.ofNat j) = gg j := by
                            intro j hj
                            show gA q 0 (Int32.ofNat j) = gg j
                            rw [k.a]
                            have x := (hT j (by omega)).1 (by rw [nsl]; exact hj)
                            have y := sg j hj
                            rw [← l79] at y
                            exact fb_inj (by omega) x.1 y.1 x.2 y.2
                          obtain ⟨q', eq', f'⟩ := st (sI q 7 0) (by show gI q 1 = sl; rw [k.1 1 (by decide), h1]; exact nsl) tok rfl
                          obtain ⟨q2, eq2, f2⟩ := v k.2.1 (sI q 7 0) rfl (fun _ _ _ => rfl) rfl
                          rw [eq'] at eq2
                          have qq := Option.some.inj eq2
                          have z0 : fsv (fun j => gJ q 3 j ^^^ gJ q 4 j) = fsv (fun _ => 0) := fsv_c (fun j j0 j1 => by
                            show gJ q 3 j ^^^ gJ q 4 j = 0
                            rw [← f2 j j0 j1, ← qq, f' j j0 j1, k.2.2.2 4 j (by decide) (by decide), Int64.xor_self])
                          rw [z0, fs0] at nn
                          exact nn (by decide)
                      · rw [if_pos l79, if_neg nsl]; exact good
                    · rw [if_neg l79]; exact good
              · have eq : X_equivalent 400 ob = some (-5, ob) := by unfold X_equivalent; rw [co_0 (fun e => d1 (h2.symm.trans e)), Option.bind_some, if_pos rfl]
                rw [eq, bind2_some, if_neg d1]
                unfold L_law_b542
                rw [if_neg (by decide), if_pos rfl]; exact fin _ _ _ _ _ _ _ _ _ h
            · rw [if_neg g14]
              have kh : ∀ p er ew, J p n d sl er ew l7 l9 hs → k34 p n d sl er ew l7 l9 hs (i12 + 2) = some 1 := fun p er ew hp => kk p n d sl er ew l7 l9 hs hp
              by_cases g12 : 12 < o
              · rw [if_pos g12]
                unfold L_law_b355
                rw [if_pos rfl]
                by_cases d1 : d = 1
                · obtain ⟨q, e, k, v⟩ := ens_s h.1
                  rw [sa_e (h2.trans d1) e, bind2_p]
                  unfold L_law_b373 L_law_b399 L_law_b411
                  rw [if_pos d1, if_pos rfl, if_pos rfl, if_pos rfl]
                  exact b423 z f k34 i12 h d1 k v (fun j => gJ q 3 j) 4 3 0 (by decide) (fun m hm => by
                    have : tb (fun j => gJ q 3 j) m = tb (gJ q 3) m := rfl
                    rw [this]
                    cases tb (gJ q 3) m <;> rfl) (Or.inl rfl) kh
                · have sa : X_satisfy 400 ob = some (-5, ob) := by unfold X_satisfy; rw [co_0 (fun e => d1 (h2.symm.trans e)), Option.bind_some, if_pos rfl]
                  rw [sa, bind2_some]
                  unfold L_law_b373
                  rw [if_neg d1, if_pos rfl]; exact fin _ _ _ _ _ _ _ _ _ h
              · rw [if_neg g12]
                unfold L_law_b355
                rw [if_neg (by decide)]
                by_cases d1 : d = 1
                · obtain ⟨q, e, k, v⟩ := ens_s h.1
                  rw [pr_e (h2.trans d1) e, bind2_p]
                  unfold L_law_b373 L_law_b399 L_law_b411
                  rw [if_pos d1, if_neg (by decide), if_neg (by decide), if_neg (by decide)]
                  exact b423 z f k34 i12 h d1 k v (fun j => gJ q 3 j ^^^ -1) 1 2 1 (by decide) (fun m hm => by
                    rw [tb_not]
                    have : tb (fun j => gJ q 3 j) m = tb (gJ q 3) m := rfl
                    rw [this]
                    cases tb (gJ q 3) m <;> rfl) (Or.inr rfl) kh
                · have pr : X_prove 400 ob = some (-5, ob) := by unfold X_prove; rw [co_0 (fun e => d1 (h2.symm.trans e)), Option.bind_some, if_pos rfl]
                  rw [pr, bind2_some]
                  unfold L_law_b373
                  rw [if_neg d1, if_pos rfl]; exact fin _ _ _ _ _ _ _ _ _ h
          · rw [if_neg g10]
            by_cases d1 : d = 1
            · obtain ⟨p, ep, hJ⟩ := J_sv h d1
              rw [ep, bind2_some, if_pos d1, if_pos rfl]; exact fin _ _ _ _ _ _ _ _ _ hJ
            · have sv : X_save 400 ob = some (-5, ob) := by unfold X_save; rw [co_0 (fun e => d1 (h2.symm.trans e)), Option.bind_some, if_pos rfl]
              rw [sv, bind2_some, if_neg d1, if_pos rfl]; exact fin _ _ _ _ _ _ _ _ _ h
    · rw [if_neg g6]
      have tb0 : 0 ≤ ((f (i12 + 1) &&& 65535) % 17).toInt := by
        have t17 : (17 : Int32).toInt = 17 := rfl
        have a := fa_and (f (i12 + 1))
        exact ((c_iremV (f (i12 + 1) &&& 65535) 17).1 a (by rw [t17]; omega)).1
      generalize (f (i12 + 1) &&& 65535) % 17 = t at tb0 ⊢
      have nt : ¬ t < 0 := by rw [lt_i, t0]; omega
      by_cases g15 : 15 < t
      · rw [push_out ob t (Or.inr g15), bind2_some, if_pos g15]
        unfold L_law_b122
        rw [if_pos rfl, if_neg (by decide)]; exact fin _ _ _ _ _ _ _ _ _ h
      · by_cases n8 : n = 8
        · rw [push_full ob t nt g15 (by rw [h1, c0, n8]; decide), bind2_some, if_neg g15, if_pos n8]
          unfold L_law_b122
          rw [if_pos rfl, if_neg (by decide)]; exact fin _ _ _ _ _ _ _ _ _ h
        · have n8' : n.toInt < 8 := by
            have : n.toInt ≠ 8 := fun e => n8 (eq_i32.mpr e)
            omega
          have l : gI ob 1 < gI ob 0 := by rw [h1, c0, lt_i, t8]; omega
          by_cases dd : d < ar t
          · rw [push_ar ob t nt g15 l (by rw [h2]; exact dd), bind2_some, if_neg g15, if_neg n8, lar, Option.bind_some, if_pos dd]
            unfold L_law_b122
            rw [if_pos rfl, if_neg (by decide)]; exact fin _ _ _ _ _ _ _ _ _ h
          · have pk : X_pushToken ob t = some (0, pu ob t) := push_ok ob t nt g15 l (by rw [h1]; omega) (by rw [h2]; exact dd)
            rw [pk, bind2_some, if_neg g15, if_neg n8, lar, Option.bind_some, if_neg dd]
            unfold L_law_b122
            rw [if_pos rfl, if_pos rfl, lar, Option.bind_some]
            have t16 : t.toInt < 2 ^ 4 := by
              rw [lt_i, t15] at g15
              have : (2 : Int) ^ 4 = 16 := by decide
              omega
            exact fin _ _ _ _ _ _ _ _ _ (J_pu h t ⟨tb0, t16⟩ n8')
  · rw [if_neg c]
theorem law_l (z : Int32) (f : Int32 → Int32) (hz : ¬ z < 0 ∧ z ≤ 260) : ∀ (m fuel : Nat) (ob : Rec) (n d sl er ew : Int32) (l7 l9 : Int64) (hs i : Int32), m < fuel → J ob n d sl er ew l7 l9 hs → 0 ≤ i.toInt → i.toInt ≤ 300 → 300 - i.toInt ≤ m → L_law_l34 400 z f fuel ob n d sl er ew l7 l9 hs i = some 1 := by
  have hz' : z.toInt ≤ 260 := le_i.mp hz.2
  intro m
  induction m with
  | zero =>
    intro fuel ob n d sl er ew l7 l9 hs i hf h h0 h1 h2
    obtain ⟨u, rfl⟩ : ∃ n, fuel = n + 1 := ⟨fuel - 1, by omega⟩
    exact law_w z f _ ob n d sl er ew l7 l9 hs i h ⟨h0, h1⟩ (fun c => by omega)
  | succ m ih =>
    intro fuel ob n d sl er ew l7 l9 hs i hf h h0 h1 h2
    obtain ⟨u, rfl⟩ : ∃ n, fuel = n + 1 := ⟨fuel - 1, by omega⟩
    have e2 : (i + 2).toInt = i.toInt + 2 := by rw [ad (by rw [t2]; omega), t2]
    exact law_w z f _ ob n d sl er ew l7 l9 hs i h ⟨h0, h1⟩ (fun c p n d sl er ew l7 l9 hs hp => ih u p n d sl er ew l7 l9 hs (i + 2) (by omega) hp (by omega) (by omega) (by omega))
theorem owed : ∀ (z : Int32) (f : Int32 → Int32), ¬ z < 0 → z ≤ 260 → ∃ NF, L_law NF z f = some 1 := by
  intro z f h0 h1
  refine ⟨400, ?_⟩
  obtain ⟨r, e, e0, e1, e2, e7, e5, e6, e4⟩ : ∃ r, X_init 3 = some r ∧ gI r 0 = 8 ∧ gI r 1 = 0 ∧ gI r 2 = 0 ∧ gI r 7 = 0 ∧ gI r 5 = 0 ∧ gI r 6 = -1 ∧ gI r 4 = 0 := ⟨_, rfl, rfl, rfl, rfl, rfl, rfl, rfl, rfl⟩
  unfold L_law
  rw [e, Option.bind_some]
  exact law_l z f ⟨h0, h1⟩ 300 400 r 0 0 0 0 (-1) 0 0 0 0 (by omega) ⟨⟨e0, by rw [e1]; decide, Or.inl e7, val0 e7⟩, e1, e2, e5, e6, e4, Or.inl ⟨rfl, rfl⟩, fun j hj => ⟨fun x => by rw [t0] at x; exact absurd x (by omega), fun _ => fb0 _ _⟩⟩ (by decide) (by decide) (by decide)
-- owed : ∀ (z : Int32) (f : Int32 → Int32), ¬ z < 0 → z ≤ 260 → ∃ NF, L_law NF z f = some 1
--COMES--
set_option maxRecDepth 65536 in
set_option maxHeartbeats 4000000 in
theorem comes_1 {Post : Tables → Env → Array Value → State → Outcome → State → Prop} (hpost : ∀ tb e args s v u, (limb_1_1.after args s (.returned v) u = true ∧ limb_1_2.after args s (.returned v) u = true ∧ True) → FrameEnd s (.returned v) u (Jvm.fieldLocs frame_1_writes args s ++ Jvm.arrayLocs frame_1_arrays args s ++ Jvm.staticLocs frame_1_statics s) 24 512 → Post tb e args s (.returned v) u) :
    ArmFor flags0 classFile x code maxLocals ret World_1 tables_1 room_1 Calls_1 rest_1 Pre_1 Post := by
  intro l hfl _ _ p e ha hc hk s m args below hf hA hF happ hP
  obtain ⟨hcalls, hrest, hpre⟩ := hP
  obtain ⟨-, -, -, hnamed, -, -, -, hat⟩ := (Spec.applies_iff hf).mp happ
  obtain ⟨hg, hn⟩ := and_e (Cond.before_iff.mp (show (Jvm.Cond.and given_1 narrow_1).before args s = true from hpre))
  obtain ⟨hcnt, hg⟩ := and_e hg
  obtain ⟨w0, rfl⟩ : ∃ w0 : Value, args = #[w0] := by
    have hs : args.size = 1 := by simpa [Cond.value, given_1] using hcnt
    obtain ⟨L⟩ := args
    match L, hs with
    | [w0], _ => exact ⟨w0, rfl⟩
  have hw := fun d (hd : d ∈ tables_1) => atoms_spec (ws := Jvm.Cond.code x code maxLocals ret :: tables_1) hat d (List.mem_cons_of_mem _ hd)
  have hfit : Fit s := fun {y c} hc i hi => by
    obtain ⟨ha, rfl⟩ := Array.getElem?_eq_some_iff.mp hc
    have q := List.all_eq_true.mp ((Array.all_eq_true_iff_forall_mem.mp hF) _ (Array.getElem_mem ha)) i (List.mem_range.mpr hi)
    simpa [Array.getElem?_eq_getElem hi] using q
  obtain ⟨n1, n2⟩ := and_e hn
  obtain ⟨sa, ev⟩ := arr_v n1
  obtain rfl : w0 = .ref sa := Option.some.inj ev
  obtain ⟨cl, A⟩ := Arr.start ev n1
  have hsz : cl.slots.size < 2 ^ 31 := by
    rcases Nat.lt_or_ge cl.slots.size (2 ^ 31) with q | q
    · exact q
    · have u : (Term.length (.arg 0)).eval #[.ref sa] s none [] s = none := by
        have v : s.arrayAt? sa = some cl := A.fin (Vm.Alike.refl _)
        have e' : ¬ cl.slots.size < 2 ^ 31 := by omega
        simp only [Term.eval] at ev ⊢
        simp [v, e']
      simp [Cond.value, u] at n2
  obtain ⟨z, hz, F⟩ := Scr.start hfit A hsz
  have hle : z ≤ 260 := by
    have u := len_f (t := .arg 0) (args := #[.ref sa]) (first := s) (o := none) (idx := []) ev (A.fin (Vm.Alike.refl _)) hsz
    rw [hz]; first | (simp only [Cond.value, u] at n2; simpa [Term.eval] using n2) | (simp [Cond.value, u, Term.int_eval] at n2; exact n2) | (simp [Cond.value, u, Term.int_eval] at n2; simpa using n2)
  obtain ⟨NF, hlaw⟩ := owed z (atv cl) F.2.2.1 hle
  have hp := L_law_pay (C := (l, s, s.heap.size, #[.ref sa])) (⟨cl, F, rfl⟩ : ScrF (l, s, s.heap.size, #[.ref sa]) sa z (atv cl)) hlaw hw s.heap (Rep.start s) tables_1
  obtain ⟨n, o, h1, h2, h3, v, L, rfl, ⟨N, G', -, rfl⟩, hq⟩ := hp p e ha hc hk s m _ below hf ((Spec.applies_iff_loose hf).mp happ).1 ⟨rfl, State.Warmed39.refl s, rfl⟩ trivial
  refine ⟨n, _, h1, h2, h3, hpost _ _ _ _ _ _ ⟨Cond.after_iff.mpr rfl, Cond.after_iff.mpr (eq_i res_at (Term.int_eval (1)) rfl), trivial⟩ ⟨hq.1, hq.2.1, (hq.2.2.sift fun y hy => Or.inr (N y hy)).mono (by decide) (by decide)⟩⟩
theorem main_1_1 : Claimed_1_1 := comes_1 fun _ _ _ _ _ _ h hF => ⟨h.1, hF⟩
theorem main_1_2 : Claimed_1_2 := comes_1 fun _ _ _ _ _ _ h hF => ⟨h.2.1, hF⟩
end Jvm.Pilot.@@N@@
namespace Jvm.Pilot.@@N@@
open Jvm Jvm.ClassFile Sem Op Lib Jvm.Free Jvm.Stand Jvm.Pilot.@@N@@.Jvm.D
/-! MADE BY PROGRAM (witnessworld.py) out of the Statement's table words and the real class files: 11 classes; the members and pool entries that the words name. The judged class is class 1, her method 4. -/
namespace start1
open Jvm.ClassFile
def u (s : String) : CpInfo := .utf8 (stringToUtf16 s)
/-- a pool by its gaps: so many unusable entries, then the entry; so many at the end -/
def gap : Nat → List CpInfo → List CpInfo
  | 0, r => r
  | n + 1, r => .unusable :: gap n r
def poolList (es : List (Nat × CpInfo)) (last : Nat) : List CpInfo := es.foldr (fun e r => gap e.1 (e.2 :: r)) (gap last [])
def pool (es : List (Nat × CpInfo)) (last : Nat) : Array CpInfo := ⟨poolList es last⟩
def fileOf (pool : Array CpInfo) (this : Nat) (attrs : Array Attribute := #[]) (ms : Array MethodInfo := #[]) (fl : Nat := 33) (sup : Nat := 0) (ifs : Array Nat := #[]) (fds : Array FieldInfo := #[]) : ClassFile where
  minorVersion := 0
  majorVersion := 65
  constantPool := pool
  accessFlags := fl
  thisClass := this
  superClass := sup
  interfaces := ifs
  fields := fds
  methods := ms
  attributes := attrs
def plain (name : String) (sup : Option ClassId) : Class where
  name := name
  kind := .ordinary
  loader := none
  accessFlags := 33
  super := sup
  interfaces := #[]
  cf := none
  fields := #[]
  methods := #[]
  instanceTypes := #[]
  staticTypes := #[]
  resolved := #[]
  callSites := []
  init := .initialized
  statics := none
  mirror := none

def pool0 : Array CpInfo := pool [(5, u "<init>"), (0, u "()V"), (1, .class_ 10), (1, u "java/lang/Object")] 113

def k0c0 : Code := { maxStack := 0, maxLocals := 1, code := object_method_1_code, exceptionTable := #[], attributes := #[] }
def k0m0 : Method := { name := "<init>", desc := "()V", sig := { parameters := [], returnType := none }, accessFlags := 1, code := some k0c0 }
/-- java/lang/Object -/
def k0 : Class := { plain "java/lang/Object" none with
  accessFlags := 33
  interfaces := #[]
  cf := some (fileOf pool0 8 #[] #[{ accessFlags := 1, nameIndex := 5, descriptorIndex := 6, attributes := #[] }] 33 0 #[] #[])
  fields := #[]
  methods := #[k0m0]
  instanceTypes := #[]
  staticTypes := #[]
  resolved := Array.replicate 124 none
  statics := none }

def pool1 : Array CpInfo := pool [(2, .class_ 4), (1, u "java/lang/Object"), (0, u "<init>"), (0, u "()V"), (0, .long 15), (1, .methodref 10 11), (0, .class_ 12), (0, .nameAndType 13 14), (0, u "SaturProver"), (0, u "evaluate"), (0, u "(I)I"), (0, .methodref 10 16), (0, .nameAndType 5 17), (0, u "(I)V"), (0, .integer 65535), (0, .methodref 10 20), (0, .nameAndType 21 14), (0, u "pushToken"), (0, .methodref 23 24), (0, .class_ 25), (0, .nameAndType 26 14), (0, u "SaturProverL6"), (0, u "ar"), (0, .methodref 10 28), (0, .nameAndType 29 30), (0, u "removeLast"), (0, u "()I"), (0, .long 18446744073709551615), (1, .methodref 10 34), (0, .nameAndType 35 6), (0, u "clear"), (0, .methodref 10 37), (0, .nameAndType 38 30), (0, u "save"), (0, .methodref 10 40), (0, .nameAndType 41 30), (0, u "prove"), (0, .methodref 10 43), (0, .nameAndType 44 30), (0, u "satisfy"), (0, .methodref 10 46), (0, .nameAndType 47 30), (0, u "witness"), (0, .methodref 23 49), (0, .nameAndType 50 51), (0, u "allBefore"), (0, u "(LSaturProver;II)Z"), (0, .methodref 10 53), (0, .nameAndType 54 30), (0, u "equivalent"), (0, .methodref 10 56), (0, .nameAndType 57 30), (0, u "length"), (0, .methodref 10 59), (0, .nameAndType 60 30), (0, u "depth"), (0, .methodref 10 62), (0, .nameAndType 63 64), (0, u "isComplete"), (0, u "()Z"), (0, .methodref 10 66), (0, .nameAndType 67 30), (0, u "savedLength"), (0, .methodref 10 69), (0, .nameAndType 70 30), (0, u "lastResult"), (0, .methodref 10 72), (0, .nameAndType 73 30), (0, u "usedVars"), (0, .methodref 23 75), (0, .nameAndType 76 77), (0, u "usedOf"), (0, u "(JI)I"), (0, .methodref 10 79), (0, .nameAndType 80 14), (0, u "tokenAt"), (3, u "law"), (0, u "([I)Z")] 4

def k1m0 : Method := { name := "<init>", desc := "()V", sig := { parameters := [], returnType := none }, accessFlags := 1, code := none }
def k1c1 : Code := { maxStack := 2, maxLocals := 1, code := method_2_code, exceptionTable := #[], attributes := #[] }
def k1m1 : Method := { name := "ar", desc := "(I)I", sig := { parameters := [.int], returnType := some .int }, accessFlags := 10, code := some k1c1 }
def k1c2 : Code := { maxStack := 4, maxLocals := 6, code := method_3_code, exceptionTable := #[], attributes := #[] }
def k1m2 : Method := { name := "usedOf", desc := "(JI)I", sig := { parameters := [.long, .int], returnType := some .int }, accessFlags := 10, code := some k1c2 }
def k1c3 : Code := { maxStack := 2, maxLocals := 4, code := method_4_code, exceptionTable := #[], attributes := #[] }
def k1m3 : Method := { name := "allBefore", desc := "(LSaturProver;II)Z", sig := { parameters := [(.object "SaturProver"), .int, .int], returnType := some .boolean }, accessFlags := 10, code := some k1c3 }
def k1c4 : Code := { maxStack := 6, maxLocals := 21, code := code, exceptionTable := #[], attributes := #[] }
def k1m4 : Method := { name := "law", desc := "([I)Z", sig := { parameters := [(.array .int)], returnType := some .boolean }, accessFlags := 9, code := some k1c4 }
/-- SaturProverL6 -/
def k1 : Class := { plain "SaturProverL6" (some 0) with
  accessFlags := 33
  interfaces := #[]
  cf := some (fileOf pool1 23 #[] #[{ accessFlags := 1, nameIndex := 5, descriptorIndex := 6, attributes := #[] }, { accessFlags := 10, nameIndex := 26, descriptorIndex := 14, attributes := #[] }, { accessFlags := 10, nameIndex := 76, descriptorIndex := 77, attributes := #[] }, { accessFlags := 10, nameIndex := 50, descriptorIndex := 51, attributes := #[] }, { accessFlags := 9, nameIndex := 84, descriptorIndex := 85, attributes := #[] }] 33 2 #[] #[])
  fields := #[]
  methods := #[k1m0, k1m1, k1m2, k1m3, k1m4]
  instanceTypes := #[]
  staticTypes := #[]
  resolved := Array.replicate 90 none
  statics := none }

def pool2 : Array CpInfo := pool [(1, .methodref 2 3), (0, .class_ 4), (0, .nameAndType 5 6), (0, u "java/lang/Object"), (0, u "<init>"), (0, u "()V"), (0, .fieldref 8 9), (0, .class_ 10), (0, .nameAndType 11 12), (0, u "SaturProver"), (0, u "toks"), (0, u "[I"), (0, .fieldref 8 14), (0, .nameAndType 15 12), (0, u "saved"), (0, .fieldref 8 17), (0, .nameAndType 18 19), (0, u "stk"), (0, u "[J"), (0, .fieldref 8 21), (0, .nameAndType 22 19), (0, u "tabF"), (0, .fieldref 8 24), (0, .nameAndType 25 19), (0, u "tabS"), (0, .fieldref 8 27), (0, .nameAndType 28 19), (0, u "work"), (0, .fieldref 8 30), (0, .nameAndType 31 32), (0, u "cap"), (0, u "I"), (0, .fieldref 8 34), (0, .nameAndType 35 32), (0, u "n"), (0, .fieldref 8 37), (0, .nameAndType 38 32), (0, u "dep"), (0, .fieldref 8 40), (0, .nameAndType 41 32), (0, u "sn"), (0, .fieldref 8 43), (0, .nameAndType 44 45), (0, u "hasSaved"), (0, u "Z"), (0, .fieldref 8 47), (0, .nameAndType 48 45), (0, u "fValid"), (0, .methodref 8 50), (0, .nameAndType 51 6), (0, u "resetResult"), (0, .methodref 8 53), (0, .nameAndType 54 55), (0, u "arity"), (0, u "(I)I"), (0, .methodref 8 57), (0, .nameAndType 58 59), (0, u "completeF"), (0, u "()Z"), (0, .methodref 8 61), (0, .nameAndType 62 6), (0, u "copyTokensToSaved"), (0, .methodref 8 64), (0, .nameAndType 65 6), (0, u "ensureTableF"), (0, .methodref 8 67), (0, .nameAndType 68 6), (0, u "copyTableFToS"), (0, .methodref 8 70), (0, .nameAndType 71 55), (0, u "bitOfF"), (0, .methodref 8 73), (0, .nameAndType 74 6), (0, u "loadWorkNegatedF"), (0, .methodref 8 76), (0, .nameAndType 77 78), (0, u "firstSetInWork"), (0, u "()I"), (0, .methodref 8 80), (0, .nameAndType 81 82), (0, u "setResult"), (0, u "(II)V"), (0, .methodref 8 84), (0, .nameAndType 85 6), (0, u "loadWorkF"), (0, .methodref 8 87), (0, .nameAndType 88 6), (0, u "loadWorkDifference"), (0, .fieldref 8 90), (0, .nameAndType 91 32), (0, u "res"), (0, .fieldref 8 93), (0, .nameAndType 94 32), (0, u "wit"), (0, .methodref 8 96), (0, .nameAndType 97 98), (0, u "step"), (0, u "(II)I"), (0, .methodref 8 100), (0, .nameAndType 101 102), (0, u "storeTopIntoF"), (0, u "(I)V"), (0, .methodref 8 104), (0, .nameAndType 105 82), (0, u "pushLeaf"), (0, .methodref 8 107), (0, .nameAndType 108 102), (0, u "negateSlot"), (0, .methodref 8 110), (0, .nameAndType 111 82), (0, u "combineSlots"), (0, .methodref 8 113), (0, .nameAndType 114 115), (0, u "leafWord"), (0, u "(II)J"), (0, .long 18446744073709551615), (1, .methodref 8 119), (0, .nameAndType 120 121), (0, u "combine"), (0, u "(IJJ)J"), (0, .methodref 8 123), (0, .nameAndType 124 115), (0, u "varWord"), (0, .long 12297829382473034410), (1, .long 14757395258967641292), (1, .long 17361641481138401520), (1, .long 18374966859414961920), (1, .long 18446462603027742720), (1, .long 18446744069414584320), (1, .methodref 8 138), (0, .nameAndType 139 140), (0, u "lowestBit"), (0, u "(J)I"), (0, u "OK"), (2, u "ERR_ARG"), (1, u "ERR_FULL"), (1, u "ERR_UNDERFLOW"), (1, u "ERR_EMPTY"), (1, u "ERR_INCOMPLETE"), (1, u "ERR_NOSAVED"), (1, u "NONE"), (0, u "TAUTOLOGY"), (1, u "FALSIFIABLE"), (1, u "SATISFIABLE"), (1, u "UNSATISFIABLE"), (1, u "EQUIVALENT"), (1, u "DIFFERENT"), (1, u "T_FALSE"), (1, u "T_TRUE"), (1, u "T_NOT"), (1, u "T_AND"), (1, u "T_OR"), (1, u "T_IMP"), (1, u "T_EQV"), (1, u "T_XOR"), (1, u "NUM_VARS"), (0, u "NUM_MASKS"), (4, u "pushToken"), (0, u "removeLast"), (0, u "clear"), (0, u "save"), (0, u "length"), (0, u "savedLength"), (0, u "depth"), (0, u "isComplete"), (0, u "tokenAt"), (0, u "usedVars"), (0, u "evaluate"), (0, u "prove"), (0, u "satisfy"), (0, u "equivalent"), (0, u "lastResult"), (0, u "witness")] 2

def k2c0 : Code := { maxStack := 2, maxLocals := 3, code := prog_1_method_1_code, exceptionTable := #[], attributes := #[] }
def k2m0 : Method := { name := "<init>", desc := "(I)V", sig := { parameters := [.int], returnType := none }, accessFlags := 1, code := some k2c0 }
def k2c1 : Code := { maxStack := 3, maxLocals := 3, code := prog_1_method_2_code, exceptionTable := #[], attributes := #[] }
def k2m1 : Method := { name := "pushToken", desc := "(I)I", sig := { parameters := [.int], returnType := some .int }, accessFlags := 1, code := some k2c1 }
def k2c2 : Code := { maxStack := 5, maxLocals := 2, code := prog_1_method_3_code, exceptionTable := #[], attributes := #[] }
def k2m2 : Method := { name := "removeLast", desc := "()I", sig := { parameters := [], returnType := some .int }, accessFlags := 1, code := some k2c2 }
def k2c3 : Code := { maxStack := 2, maxLocals := 1, code := prog_1_method_4_code, exceptionTable := #[], attributes := #[] }
def k2m3 : Method := { name := "clear", desc := "()V", sig := { parameters := [], returnType := none }, accessFlags := 1, code := some k2c3 }
def k2c4 : Code := { maxStack := 2, maxLocals := 1, code := prog_1_method_5_code, exceptionTable := #[], attributes := #[] }
def k2m4 : Method := { name := "save", desc := "()I", sig := { parameters := [], returnType := some .int }, accessFlags := 1, code := some k2c4 }
def k2c5 : Code := { maxStack := 1, maxLocals := 1, code := prog_1_method_6_code, exceptionTable := #[], attributes := #[] }
def k2m5 : Method := { name := "length", desc := "()I", sig := { parameters := [], returnType := some .int }, accessFlags := 1, code := some k2c5 }
def k2c6 : Code := { maxStack := 1, maxLocals := 1, code := prog_1_method_7_code, exceptionTable := #[], attributes := #[] }
def k2m6 : Method := { name := "savedLength", desc := "()I", sig := { parameters := [], returnType := some .int }, accessFlags := 1, code := some k2c6 }
def k2c7 : Code := { maxStack := 1, maxLocals := 1, code := prog_1_method_8_code, exceptionTable := #[], attributes := #[] }
def k2m7 : Method := { name := "depth", desc := "()I", sig := { parameters := [], returnType := some .int }, accessFlags := 1, code := some k2c7 }
def k2c8 : Code := { maxStack := 1, maxLocals := 1, code := prog_1_method_9_code, exceptionTable := #[], attributes := #[] }
def k2m8 : Method := { name := "isComplete", desc := "()Z", sig := { parameters := [], returnType := some .boolean }, accessFlags := 1, code := some k2c8 }
def k2c9 : Code := { maxStack := 2, maxLocals := 2, code := prog_1_method_10_code, exceptionTable := #[], attributes := #[] }
def k2m9 : Method := { name := "tokenAt", desc := "(I)I", sig := { parameters := [.int], returnType := some .int }, accessFlags := 1, code := some k2c9 }
def k2c10 : Code := { maxStack := 3, maxLocals := 4, code := prog_1_method_11_code, exceptionTable := #[], attributes := #[] }
def k2m10 : Method := { name := "usedVars", desc := "()I", sig := { parameters := [], returnType := some .int }, accessFlags := 1, code := some k2c10 }
def k2c11 : Code := { maxStack := 2, maxLocals := 2, code := prog_1_method_12_code, exceptionTable := #[], attributes := #[] }
def k2m11 : Method := { name := "evaluate", desc := "(I)I", sig := { parameters := [.int], returnType := some .int }, accessFlags := 1, code := some k2c11 }
def k2c12 : Code := { maxStack := 3, maxLocals := 2, code := prog_1_method_13_code, exceptionTable := #[], attributes := #[] }
def k2m12 : Method := { name := "prove", desc := "()I", sig := { parameters := [], returnType := some .int }, accessFlags := 1, code := some k2c12 }
def k2c13 : Code := { maxStack := 3, maxLocals := 2, code := prog_1_method_14_code, exceptionTable := #[], attributes := #[] }
def k2m13 : Method := { name := "satisfy", desc := "()I", sig := { parameters := [], returnType := some .int }, accessFlags := 1, code := some k2c13 }
def k2c14 : Code := { maxStack := 3, maxLocals := 2, code := prog_1_method_15_code, exceptionTable := #[], attributes := #[] }
def k2m14 : Method := { name := "equivalent", desc := "()I", sig := { parameters := [], returnType := some .int }, accessFlags := 1, code := some k2c14 }
def k2c15 : Code := { maxStack := 1, maxLocals := 1, code := prog_1_method_16_code, exceptionTable := #[], attributes := #[] }
def k2m15 : Method := { name := "lastResult", desc := "()I", sig := { parameters := [], returnType := some .int }, accessFlags := 1, code := some k2c15 }
def k2c16 : Code := { maxStack := 1, maxLocals := 1, code := prog_1_method_17_code, exceptionTable := #[], attributes := #[] }
def k2m16 : Method := { name := "witness", desc := "()I", sig := { parameters := [], returnType := some .int }, accessFlags := 1, code := some k2c16 }
def k2c17 : Code := { maxStack := 2, maxLocals := 1, code := prog_1_method_18_code, exceptionTable := #[], attributes := #[] }
def k2m17 : Method := { name := "completeF", desc := "()Z", sig := { parameters := [], returnType := some .boolean }, accessFlags := 2, code := some k2c17 }
def k2c18 : Code := { maxStack := 2, maxLocals := 1, code := prog_1_method_19_code, exceptionTable := #[], attributes := #[] }
def k2m18 : Method := { name := "resetResult", desc := "()V", sig := { parameters := [], returnType := none }, accessFlags := 2, code := some k2c18 }
def k2c19 : Code := { maxStack := 2, maxLocals := 3, code := prog_1_method_20_code, exceptionTable := #[], attributes := #[] }
def k2m19 : Method := { name := "setResult", desc := "(II)V", sig := { parameters := [.int, .int], returnType := none }, accessFlags := 2, code := some k2c19 }
def k2c20 : Code := { maxStack := 2, maxLocals := 2, code := prog_1_method_21_code, exceptionTable := #[], attributes := #[] }
def k2m20 : Method := { name := "arity", desc := "(I)I", sig := { parameters := [.int], returnType := some .int }, accessFlags := 2, code := some k2c20 }
def k2c21 : Code := { maxStack := 4, maxLocals := 3, code := prog_1_method_22_code, exceptionTable := #[], attributes := #[] }
def k2m21 : Method := { name := "copyTokensToSaved", desc := "()V", sig := { parameters := [], returnType := none }, accessFlags := 2, code := some k2c21 }
def k2c22 : Code := { maxStack := 4, maxLocals := 2, code := prog_1_method_23_code, exceptionTable := #[], attributes := #[] }
def k2m22 : Method := { name := "copyTableFToS", desc := "()V", sig := { parameters := [], returnType := none }, accessFlags := 2, code := some k2c22 }
def k2c23 : Code := { maxStack := 3, maxLocals := 4, code := prog_1_method_24_code, exceptionTable := #[], attributes := #[] }
def k2m23 : Method := { name := "ensureTableF", desc := "()V", sig := { parameters := [], returnType := none }, accessFlags := 2, code := some k2c23 }
def k2c24 : Code := { maxStack := 4, maxLocals := 5, code := prog_1_method_25_code, exceptionTable := #[], attributes := #[] }
def k2m24 : Method := { name := "storeTopIntoF", desc := "(I)V", sig := { parameters := [.int], returnType := none }, accessFlags := 2, code := some k2c24 }
def k2c25 : Code := { maxStack := 4, maxLocals := 4, code := prog_1_method_26_code, exceptionTable := #[], attributes := #[] }
def k2m25 : Method := { name := "step", desc := "(II)I", sig := { parameters := [.int, .int], returnType := some .int }, accessFlags := 2, code := some k2c25 }
def k2c26 : Code := { maxStack := 5, maxLocals := 5, code := prog_1_method_27_code, exceptionTable := #[], attributes := #[] }
def k2m26 : Method := { name := "pushLeaf", desc := "(II)V", sig := { parameters := [.int, .int], returnType := none }, accessFlags := 2, code := some k2c26 }
def k2c27 : Code := { maxStack := 6, maxLocals := 4, code := prog_1_method_28_code, exceptionTable := #[], attributes := #[] }
def k2m27 : Method := { name := "negateSlot", desc := "(I)V", sig := { parameters := [.int], returnType := none }, accessFlags := 2, code := some k2c27 }
def k2c28 : Code := { maxStack := 8, maxLocals := 9, code := prog_1_method_29_code, exceptionTable := #[], attributes := #[] }
def k2m28 : Method := { name := "combineSlots", desc := "(II)V", sig := { parameters := [.int, .int], returnType := none }, accessFlags := 2, code := some k2c28 }
def k2c29 : Code := { maxStack := 4, maxLocals := 6, code := prog_1_method_30_code, exceptionTable := #[], attributes := #[] }
def k2m29 : Method := { name := "combine", desc := "(IJJ)J", sig := { parameters := [.int, .long, .long], returnType := some .long }, accessFlags := 2, code := some k2c29 }
def k2c30 : Code := { maxStack := 3, maxLocals := 3, code := prog_1_method_31_code, exceptionTable := #[], attributes := #[] }
def k2m30 : Method := { name := "leafWord", desc := "(II)J", sig := { parameters := [.int, .int], returnType := some .long }, accessFlags := 2, code := some k2c30 }
def k2c31 : Code := { maxStack := 2, maxLocals := 3, code := prog_1_method_32_code, exceptionTable := #[], attributes := #[] }
def k2m31 : Method := { name := "varWord", desc := "(II)J", sig := { parameters := [.int, .int], returnType := some .long }, accessFlags := 2, code := some k2c31 }
def k2c32 : Code := { maxStack := 4, maxLocals := 5, code := prog_1_method_33_code, exceptionTable := #[], attributes := #[] }
def k2m32 : Method := { name := "bitOfF", desc := "(I)I", sig := { parameters := [.int], returnType := some .int }, accessFlags := 2, code := some k2c32 }
def k2c33 : Code := { maxStack := 4, maxLocals := 2, code := prog_1_method_34_code, exceptionTable := #[], attributes := #[] }
def k2m33 : Method := { name := "loadWorkF", desc := "()V", sig := { parameters := [], returnType := none }, accessFlags := 2, code := some k2c33 }
def k2c34 : Code := { maxStack := 6, maxLocals := 2, code := prog_1_method_35_code, exceptionTable := #[], attributes := #[] }
def k2m34 : Method := { name := "loadWorkNegatedF", desc := "()V", sig := { parameters := [], returnType := none }, accessFlags := 2, code := some k2c34 }
def k2c35 : Code := { maxStack := 6, maxLocals := 2, code := prog_1_method_36_code, exceptionTable := #[], attributes := #[] }
def k2m35 : Method := { name := "loadWorkDifference", desc := "()V", sig := { parameters := [], returnType := none }, accessFlags := 2, code := some k2c35 }
def k2c36 : Code := { maxStack := 4, maxLocals := 4, code := prog_1_method_37_code, exceptionTable := #[], attributes := #[] }
def k2m36 : Method := { name := "firstSetInWork", desc := "()I", sig := { parameters := [], returnType := some .int }, accessFlags := 2, code := some k2c36 }
def k2c37 : Code := { maxStack := 4, maxLocals := 10, code := prog_1_method_38_code, exceptionTable := #[], attributes := #[] }
def k2m37 : Method := { name := "lowestBit", desc := "(J)I", sig := { parameters := [.long], returnType := some .int }, accessFlags := 2, code := some k2c37 }
/-- SaturProver -/
def k2 : Class := { plain "SaturProver" (some 0) with
  accessFlags := 49
  interfaces := #[]
  cf := some (fileOf pool2 8 #[] #[{ accessFlags := 1, nameIndex := 5, descriptorIndex := 102, attributes := #[] }, { accessFlags := 1, nameIndex := 191, descriptorIndex := 55, attributes := #[] }, { accessFlags := 1, nameIndex := 192, descriptorIndex := 78, attributes := #[] }, { accessFlags := 1, nameIndex := 193, descriptorIndex := 6, attributes := #[] }, { accessFlags := 1, nameIndex := 194, descriptorIndex := 78, attributes := #[] }, { accessFlags := 1, nameIndex := 195, descriptorIndex := 78, attributes := #[] }, { accessFlags := 1, nameIndex := 196, descriptorIndex := 78, attributes := #[] }, { accessFlags := 1, nameIndex := 197, descriptorIndex := 78, attributes := #[] }, { accessFlags := 1, nameIndex := 198, descriptorIndex := 59, attributes := #[] }, { accessFlags := 1, nameIndex := 199, descriptorIndex := 55, attributes := #[] }, { accessFlags := 1, nameIndex := 200, descriptorIndex := 78, attributes := #[] }, { accessFlags := 1, nameIndex := 201, descriptorIndex := 55, attributes := #[] }, { accessFlags := 1, nameIndex := 202, descriptorIndex := 78, attributes := #[] }, { accessFlags := 1, nameIndex := 203, descriptorIndex := 78, attributes := #[] }, { accessFlags := 1, nameIndex := 204, descriptorIndex := 78, attributes := #[] }, { accessFlags := 1, nameIndex := 205, descriptorIndex := 78, attributes := #[] }, { accessFlags := 1, nameIndex := 206, descriptorIndex := 78, attributes := #[] }, { accessFlags := 2, nameIndex := 58, descriptorIndex := 59, attributes := #[] }, { accessFlags := 2, nameIndex := 51, descriptorIndex := 6, attributes := #[] }, { accessFlags := 2, nameIndex := 81, descriptorIndex := 82, attributes := #[] }, { accessFlags := 2, nameIndex := 54, descriptorIndex := 55, attributes := #[] }, { accessFlags := 2, nameIndex := 62, descriptorIndex := 6, attributes := #[] }, { accessFlags := 2, nameIndex := 68, descriptorIndex := 6, attributes := #[] }, { accessFlags := 2, nameIndex := 65, descriptorIndex := 6, attributes := #[] }, { accessFlags := 2, nameIndex := 101, descriptorIndex := 102, attributes := #[] }, { accessFlags := 2, nameIndex := 97, descriptorIndex := 98, attributes := #[] }, { accessFlags := 2, nameIndex := 105, descriptorIndex := 82, attributes := #[] }, { accessFlags := 2, nameIndex := 108, descriptorIndex := 102, attributes := #[] }, { accessFlags := 2, nameIndex := 111, descriptorIndex := 82, attributes := #[] }, { accessFlags := 2, nameIndex := 120, descriptorIndex := 121, attributes := #[] }, { accessFlags := 2, nameIndex := 114, descriptorIndex := 115, attributes := #[] }, { accessFlags := 2, nameIndex := 124, descriptorIndex := 115, attributes := #[] }, { accessFlags := 2, nameIndex := 71, descriptorIndex := 55, attributes := #[] }, { accessFlags := 2, nameIndex := 85, descriptorIndex := 6, attributes := #[] }, { accessFlags := 2, nameIndex := 74, descriptorIndex := 6, attributes := #[] }, { accessFlags := 2, nameIndex := 88, descriptorIndex := 6, attributes := #[] }, { accessFlags := 2, nameIndex := 77, descriptorIndex := 78, attributes := #[] }, { accessFlags := 2, nameIndex := 139, descriptorIndex := 140, attributes := #[] }] 49 2 #[] #[{ accessFlags := 25, nameIndex := 141, descriptorIndex := 32, attributes := #[] }, { accessFlags := 25, nameIndex := 144, descriptorIndex := 32, attributes := #[] }, { accessFlags := 25, nameIndex := 146, descriptorIndex := 32, attributes := #[] }, { accessFlags := 25, nameIndex := 148, descriptorIndex := 32, attributes := #[] }, { accessFlags := 25, nameIndex := 150, descriptorIndex := 32, attributes := #[] }, { accessFlags := 25, nameIndex := 152, descriptorIndex := 32, attributes := #[] }, { accessFlags := 25, nameIndex := 154, descriptorIndex := 32, attributes := #[] }, { accessFlags := 25, nameIndex := 156, descriptorIndex := 32, attributes := #[] }, { accessFlags := 25, nameIndex := 157, descriptorIndex := 32, attributes := #[] }, { accessFlags := 25, nameIndex := 159, descriptorIndex := 32, attributes := #[] }, { accessFlags := 25, nameIndex := 161, descriptorIndex := 32, attributes := #[] }, { accessFlags := 25, nameIndex := 163, descriptorIndex := 32, attributes := #[] }, { accessFlags := 25, nameIndex := 165, descriptorIndex := 32, attributes := #[] }, { accessFlags := 25, nameIndex := 167, descriptorIndex := 32, attributes := #[] }, { accessFlags := 25, nameIndex := 169, descriptorIndex := 32, attributes := #[] }, { accessFlags := 25, nameIndex := 171, descriptorIndex := 32, attributes := #[] }, { accessFlags := 25, nameIndex := 173, descriptorIndex := 32, attributes := #[] }, { accessFlags := 25, nameIndex := 175, descriptorIndex := 32, attributes := #[] }, { accessFlags := 25, nameIndex := 177, descriptorIndex := 32, attributes := #[] }, { accessFlags := 25, nameIndex := 179, descriptorIndex := 32, attributes := #[] }, { accessFlags := 25, nameIndex := 181, descriptorIndex := 32, attributes := #[] }, { accessFlags := 25, nameIndex := 183, descriptorIndex := 32, attributes := #[] }, { accessFlags := 25, nameIndex := 185, descriptorIndex := 32, attributes := #[] }, { accessFlags := 25, nameIndex := 186, descriptorIndex := 32, attributes := #[] }, { accessFlags := 2, nameIndex := 31, descriptorIndex := 32, attributes := #[] }, { accessFlags := 18, nameIndex := 11, descriptorIndex := 12, attributes := #[] }, { accessFlags := 2, nameIndex := 35, descriptorIndex := 32, attributes := #[] }, { accessFlags := 2, nameIndex := 38, descriptorIndex := 32, attributes := #[] }, { accessFlags := 18, nameIndex := 15, descriptorIndex := 12, attributes := #[] }, { accessFlags := 2, nameIndex := 41, descriptorIndex := 32, attributes := #[] }, { accessFlags := 2, nameIndex := 44, descriptorIndex := 45, attributes := #[] }, { accessFlags := 2, nameIndex := 91, descriptorIndex := 32, attributes := #[] }, { accessFlags := 2, nameIndex := 94, descriptorIndex := 32, attributes := #[] }, { accessFlags := 18, nameIndex := 18, descriptorIndex := 19, attributes := #[] }, { accessFlags := 18, nameIndex := 22, descriptorIndex := 19, attributes := #[] }, { accessFlags := 18, nameIndex := 25, descriptorIndex := 19, attributes := #[] }, { accessFlags := 2, nameIndex := 48, descriptorIndex := 45, attributes := #[] }, { accessFlags := 18, nameIndex := 28, descriptorIndex := 19, attributes := #[] }])
  fields := #[{ name := "OK", type := .int, accessFlags := 25, slot := 0, constantValue := 0 }, { name := "ERR_ARG", type := .int, accessFlags := 25, slot := 1, constantValue := 0 }, { name := "ERR_FULL", type := .int, accessFlags := 25, slot := 2, constantValue := 0 }, { name := "ERR_UNDERFLOW", type := .int, accessFlags := 25, slot := 3, constantValue := 0 }, { name := "ERR_EMPTY", type := .int, accessFlags := 25, slot := 4, constantValue := 0 }, { name := "ERR_INCOMPLETE", type := .int, accessFlags := 25, slot := 5, constantValue := 0 }, { name := "ERR_NOSAVED", type := .int, accessFlags := 25, slot := 6, constantValue := 0 }, { name := "NONE", type := .int, accessFlags := 25, slot := 7, constantValue := 0 }, { name := "TAUTOLOGY", type := .int, accessFlags := 25, slot := 8, constantValue := 0 }, { name := "FALSIFIABLE", type := .int, accessFlags := 25, slot := 9, constantValue := 0 }, { name := "SATISFIABLE", type := .int, accessFlags := 25, slot := 10, constantValue := 0 }, { name := "UNSATISFIABLE", type := .int, accessFlags := 25, slot := 11, constantValue := 0 }, { name := "EQUIVALENT", type := .int, accessFlags := 25, slot := 12, constantValue := 0 }, { name := "DIFFERENT", type := .int, accessFlags := 25, slot := 13, constantValue := 0 }, { name := "T_FALSE", type := .int, accessFlags := 25, slot := 14, constantValue := 0 }, { name := "T_TRUE", type := .int, accessFlags := 25, slot := 15, constantValue := 0 }, { name := "T_NOT", type := .int, accessFlags := 25, slot := 16, constantValue := 0 }, { name := "T_AND", type := .int, accessFlags := 25, slot := 17, constantValue := 0 }, { name := "T_OR", type := .int, accessFlags := 25, slot := 18, constantValue := 0 }, { name := "T_IMP", type := .int, accessFlags := 25, slot := 19, constantValue := 0 }, { name := "T_EQV", type := .int, accessFlags := 25, slot := 20, constantValue := 0 }, { name := "T_XOR", type := .int, accessFlags := 25, slot := 21, constantValue := 0 }, { name := "NUM_VARS", type := .int, accessFlags := 25, slot := 22, constantValue := 0 }, { name := "NUM_MASKS", type := .int, accessFlags := 25, slot := 23, constantValue := 0 }, { name := "cap", type := .int, accessFlags := 2, slot := 0, constantValue := 0 }, { name := "toks", type := (.array .int), accessFlags := 18, slot := 1, constantValue := 0 }, { name := "n", type := .int, accessFlags := 2, slot := 2, constantValue := 0 }, { name := "dep", type := .int, accessFlags := 2, slot := 3, constantValue := 0 }, { name := "saved", type := (.array .int), accessFlags := 18, slot := 4, constantValue := 0 }, { name := "sn", type := .int, accessFlags := 2, slot := 5, constantValue := 0 }, { name := "hasSaved", type := .boolean, accessFlags := 2, slot := 6, constantValue := 0 }, { name := "res", type := .int, accessFlags := 2, slot := 7, constantValue := 0 }, { name := "wit", type := .int, accessFlags := 2, slot := 8, constantValue := 0 }, { name := "stk", type := (.array .long), accessFlags := 18, slot := 9, constantValue := 0 }, { name := "tabF", type := (.array .long), accessFlags := 18, slot := 10, constantValue := 0 }, { name := "tabS", type := (.array .long), accessFlags := 18, slot := 11, constantValue := 0 }, { name := "fValid", type := .boolean, accessFlags := 2, slot := 12, constantValue := 0 }, { name := "work", type := (.array .long), accessFlags := 18, slot := 13, constantValue := 0 }]
  methods := #[k2m0, k2m1, k2m2, k2m3, k2m4, k2m5, k2m6, k2m7, k2m8, k2m9, k2m10, k2m11, k2m12, k2m13, k2m14, k2m15, k2m16, k2m17, k2m18, k2m19, k2m20, k2m21, k2m22, k2m23, k2m24, k2m25, k2m26, k2m27, k2m28, k2m29, k2m30, k2m31, k2m32, k2m33, k2m34, k2m35, k2m36, k2m37]
  instanceTypes := #[.int, (.array .int), .int, .int, (.array .int), .int, .boolean, .int, .int, (.array .long), (.array .long), (.array .long), .boolean, (.array .long)]
  staticTypes := #[.int, .int, .int, .int, .int, .int, .int, .int, .int, .int, .int, .int, .int, .int, .int, .int, .int, .int, .int, .int, .int, .int, .int, .int]
  resolved := Array.replicate 209 none
  statics := none }

def pool3 : Array CpInfo := pool [(1, u "java/lang/Cloneable"), (0, .class_ 1), (0, u "java/lang/Object"), (0, .class_ 3)] 3

/-- java/lang/Cloneable -/
def k3 : Class := { plain "java/lang/Cloneable" (some 0) with
  accessFlags := 1537
  interfaces := #[]
  cf := some (fileOf pool3 2 #[] #[] 1537 4 #[] #[])
  fields := #[]
  methods := #[]
  instanceTypes := #[]
  staticTypes := #[]
  resolved := Array.replicate 8 none
  statics := none }

def pool4 : Array CpInfo := pool [(1, u "java/io/Serializable"), (0, .class_ 1), (0, u "java/lang/Object"), (0, .class_ 3)] 3

/-- java/io/Serializable -/
def k4 : Class := { plain "java/io/Serializable" (some 0) with
  accessFlags := 1537
  interfaces := #[]
  cf := some (fileOf pool4 2 #[] #[] 1537 4 #[] #[])
  fields := #[]
  methods := #[]
  instanceTypes := #[]
  staticTypes := #[]
  resolved := Array.replicate 8 none
  statics := none }

/-- the primitive byte -/
def k5 : Class := { plain "byte" none with kind := .primitive 'B', accessFlags := 0x411 }
/-- [B -/
def k6 : Class := { plain "[B" (some 0) with kind := .array 5 .byte, interfaces := #[3, 4], accessFlags := 1041 }

/-- the primitive int -/
def k7 : Class := { plain "int" none with kind := .primitive 'I', accessFlags := 0x411 }
/-- [I -/
def k8 : Class := { plain "[I" (some 0) with kind := .array 7 .int, interfaces := #[3, 4], accessFlags := 1041 }

/-- the primitive long -/
def k9 : Class := { plain "long" none with kind := .primitive 'J', accessFlags := 0x411 }
/-- [J -/
def k10 : Class := { plain "[J" (some 0) with kind := .array 9 .long, interfaces := #[3, 4], accessFlags := 1041 }

def heap : Heap := #[{ cls := 8, slots := #[.int 0, .int 3, .int 5], vm := .none }]
def classes : Array Class := #[k0, k1, k2, k3, k4, k5, k6, k7, k8, k9, k10]
def interned : List (Array UInt16 × Addr) := []
def slotsUsed : Nat := 3
def theMethod : MethodId := ⟨1, 4⟩
def args0 : Array Value := #[.ref 0]
def aboutOver (below : List Frame) : State where
  vm := { classes := classes, interned := interned.toArray }
  heap := heap
  slotsUsed := slotsUsed
  threads := #[{ frames := .invoking theMethod args0 :: below }]
def below0 : List Frame := [.native { method := ⟨0, 0⟩, args := #[] }]
def about1 : State := aboutOver below0
def p0 : Program := .bare "" "" ""
def e0 : Env := launch0.env 0 0 0
theorem w_frames : about1.frames = Frame.invoking theMethod args0 :: below0 := rfl
set_option maxRecDepth 65536 in
theorem w_args : argsFit about1.vm theMethod args0 = true := by decide +kernel
set_option maxRecDepth 65536 in
theorem w_heap : heapFits about1 = true := by decide +kernel
set_option maxRecDepth 65536 in
theorem w_runnable : about1.curStatus? = some .runnable := by decide +kernel
set_option maxRecDepth 65536 in
theorem w_alone : about1.alone = true := by decide +kernel
set_option maxRecDepth 65536 in
theorem w_named : about1.methodNamed? x = some theMethod := by decide +kernel
set_option maxRecDepth 65536 in
theorem w_hears : about1.hears theMethod below0 = true := by decide +kernel
set_option maxRecDepth 65536 in
theorem w_ripe : about1.ripe theMethod args0 below0 = true := by decide +kernel
theorem w_running : about1.status = .running := rfl
set_option maxRecDepth 65536 in
theorem w_room : about1.hasRoom e0.platform room_1 = true :=
  launch0.hasRoom_least _ room_1 (by decide +kernel) (by decide +kernel) (by decide +kernel) (by decide +kernel) (by decide +kernel) (by decide +kernel)
theorem allAtoms_all (ts : List Jvm.Cond) (a : Array Jvm.Value) (st : Jvm.State) : (allAtoms ts).before a st = ts.all (fun c => c.before a st) := by
  induction ts with
  | nil => rfl
  | cons c t ih =>
    show (Jvm.Cond.and c (allAtoms t)).before a st = _
    rw [Jvm.Cond.before_and, ih, List.all_cons]
def words1 : List Jvm.Cond := Jvm.Cond.code x code maxLocals ret :: tables_1
/-- a 'code' word, met by the world's own term for the bytes: nothing is compared byte by byte -/
theorem code_word {y : MethodName} {bytes : ByteArray} {mx : Nat} {rt : Option FieldType} {a : Array Value} {s : State} {m : MethodId} {meth : Method} {c : Code} (h1 : s.methodNamed? y = some m) (h2 : s.vm.method? m = some meth) (h3 : meth.code = some c) (h4 : c.code = bytes)
    (h5 : (c.maxLocals == mx && c.exceptionTable.isEmpty && decide (c.maxStack ≤ mostOperands) && decide (meth.sig.returnType = rt) && !meth.locks && decide (parseMethodDescriptor y.desc = some meth.sig)) = true) : (Jvm.Cond.code y bytes mx rt).before a s = true := by
  simp only [Bool.and_eq_true, beq_iff_eq, Bool.not_eq_true', decide_eq_true_eq] at h5
  obtain ⟨⟨⟨⟨⟨g1, g2⟩, g3⟩, g4⟩, g5⟩, g6⟩ := h5
  simp [Cond.before, Cond.holds, Cond.value, h1, h2, h3, h4, g1, g2, g3, g4, g5, g6]
def isCode : Jvm.Cond → Bool
  | .code _ _ _ _ => true
  | _ => false
theorem all_split {L : List Jvm.Cond} {P : Jvm.Cond → Bool} (h1 : L.all (fun c => isCode c || P c) = true) (h2 : ∀ c ∈ L.filter isCode, P c = true) : L.all P = true := by
  refine List.all_eq_true.mpr fun c hc => ?_
  have h := List.all_eq_true.mp h1 c hc
  rcases Bool.eq_false_or_eq_true (isCode c) with hi | hi
  · exact h2 c (List.mem_filter.mpr ⟨hc, hi⟩)
  · simpa [hi] using h
set_option maxRecDepth 65536 in
theorem w_c0 : (Jvm.Cond.code x code maxLocals ret).before args0 about1 = true := code_word (m := ⟨1, 4⟩) (meth := k1m4) (c := k1c4) (by decide +kernel) rfl rfl rfl (by decide +kernel)
set_option maxRecDepth 65536 in
theorem w_c1 : (Jvm.Cond.code ({ cls := "SaturProver", name := "<init>", desc := "(I)V" } : Jvm.MethodName) prog_1_method_1_code (3 : Nat) (Option.none : Option Jvm.ClassFile.FieldType)).before args0 about1 = true := code_word (m := ⟨2, 0⟩) (meth := k2m0) (c := k2c0) (by decide +kernel) rfl rfl rfl (by decide +kernel)
set_option maxRecDepth 65536 in
theorem w_c2 : (Jvm.Cond.code ({ cls := "java/lang/Object", name := "<init>", desc := "()V" } : Jvm.MethodName) object_method_1_code (1 : Nat) (Option.none : Option Jvm.ClassFile.FieldType)).before args0 about1 = true := code_word (m := ⟨0, 0⟩) (meth := k0m0) (c := k0c0) (by decide +kernel) rfl rfl rfl (by decide +kernel)
set_option maxRecDepth 65536 in
theorem w_c3 : (Jvm.Cond.code ({ cls := "SaturProver", name := "resetResult", desc := "()V" } : Jvm.MethodName) prog_1_method_19_code (1 : Nat) (Option.none : Option Jvm.ClassFile.FieldType)).before args0 about1 = true := code_word (m := ⟨2, 18⟩) (meth := k2m18) (c := k2c18) (by decide +kernel) rfl rfl rfl (by decide +kernel)
set_option maxRecDepth 65536 in
theorem w_c4 : (Jvm.Cond.code ({ cls := "SaturProver", name := "pushToken", desc := "(I)I" } : Jvm.MethodName) prog_1_method_2_code (3 : Nat) (Option.some Jvm.ClassFile.FieldType.int)).before args0 about1 = true := code_word (m := ⟨2, 1⟩) (meth := k2m1) (c := k2c1) (by decide +kernel) rfl rfl rfl (by decide +kernel)
set_option maxRecDepth 65536 in
theorem w_c5 : (Jvm.Cond.code ({ cls := "SaturProver", name := "arity", desc := "(I)I" } : Jvm.MethodName) prog_1_method_21_code (2 : Nat) (Option.some Jvm.ClassFile.FieldType.int)).before args0 about1 = true := code_word (m := ⟨2, 20⟩) (meth := k2m20) (c := k2c20) (by decide +kernel) rfl rfl rfl (by decide +kernel)
set_option maxRecDepth 65536 in
theorem w_c6 : (Jvm.Cond.code ({ cls := "SaturProverL6", name := "ar", desc := "(I)I" } : Jvm.MethodName) method_2_code (1 : Nat) (Option.some Jvm.ClassFile.FieldType.int)).before args0 about1 = true := code_word (m := ⟨1, 1⟩) (meth := k1m1) (c := k1c1) (by decide +kernel) rfl rfl rfl (by decide +kernel)
set_option maxRecDepth 65536 in
theorem w_c7 : (Jvm.Cond.code ({ cls := "SaturProver", name := "length", desc := "()I" } : Jvm.MethodName) prog_1_method_6_code (1 : Nat) (Option.some Jvm.ClassFile.FieldType.int)).before args0 about1 = true := code_word (m := ⟨2, 5⟩) (meth := k2m5) (c := k2c5) (by decide +kernel) rfl rfl rfl (by decide +kernel)
set_option maxRecDepth 65536 in
theorem w_c8 : (Jvm.Cond.code ({ cls := "SaturProver", name := "depth", desc := "()I" } : Jvm.MethodName) prog_1_method_8_code (1 : Nat) (Option.some Jvm.ClassFile.FieldType.int)).before args0 about1 = true := code_word (m := ⟨2, 7⟩) (meth := k2m7) (c := k2c7) (by decide +kernel) rfl rfl rfl (by decide +kernel)
set_option maxRecDepth 65536 in
theorem w_c9 : (Jvm.Cond.code ({ cls := "SaturProver", name := "isComplete", desc := "()Z" } : Jvm.MethodName) prog_1_method_9_code (1 : Nat) (Option.some Jvm.ClassFile.FieldType.boolean)).before args0 about1 = true := code_word (m := ⟨2, 8⟩) (meth := k2m8) (c := k2c8) (by decide +kernel) rfl rfl rfl (by decide +kernel)
set_option maxRecDepth 65536 in
theorem w_c10 : (Jvm.Cond.code ({ cls := "SaturProver", name := "completeF", desc := "()Z" } : Jvm.MethodName) prog_1_method_18_code (1 : Nat) (Option.some Jvm.ClassFile.FieldType.boolean)).before args0 about1 = true := code_word (m := ⟨2, 17⟩) (meth := k2m17) (c := k2c17) (by decide +kernel) rfl rfl rfl (by decide +kernel)
set_option maxRecDepth 65536 in
theorem w_c11 : (Jvm.Cond.code ({ cls := "SaturProver", name := "savedLength", desc := "()I" } : Jvm.MethodName) prog_1_method_7_code (1 : Nat) (Option.some Jvm.ClassFile.FieldType.int)).before args0 about1 = true := code_word (m := ⟨2, 6⟩) (meth := k2m6) (c := k2c6) (by decide +kernel) rfl rfl rfl (by decide +kernel)
set_option maxRecDepth 65536 in
theorem w_c12 : (Jvm.Cond.code ({ cls := "SaturProver", name := "lastResult", desc := "()I" } : Jvm.MethodName) prog_1_method_16_code (1 : Nat) (Option.some Jvm.ClassFile.FieldType.int)).before args0 about1 = true := code_word (m := ⟨2, 15⟩) (meth := k2m15) (c := k2c15) (by decide +kernel) rfl rfl rfl (by decide +kernel)
set_option maxRecDepth 65536 in
theorem w_c13 : (Jvm.Cond.code ({ cls := "SaturProver", name := "witness", desc := "()I" } : Jvm.MethodName) prog_1_method_17_code (1 : Nat) (Option.some Jvm.ClassFile.FieldType.int)).before args0 about1 = true := code_word (m := ⟨2, 16⟩) (meth := k2m16) (c := k2c16) (by decide +kernel) rfl rfl rfl (by decide +kernel)
set_option maxRecDepth 65536 in
theorem w_c14 : (Jvm.Cond.code ({ cls := "SaturProver", name := "usedVars", desc := "()I" } : Jvm.MethodName) prog_1_method_11_code (4 : Nat) (Option.some Jvm.ClassFile.FieldType.int)).before args0 about1 = true := code_word (m := ⟨2, 10⟩) (meth := k2m10) (c := k2c10) (by decide +kernel) rfl rfl rfl (by decide +kernel)
set_option maxRecDepth 65536 in
theorem w_c15 : (Jvm.Cond.code ({ cls := "SaturProverL6", name := "usedOf", desc := "(JI)I" } : Jvm.MethodName) method_3_code (6 : Nat) (Option.some Jvm.ClassFile.FieldType.int)).before args0 about1 = true := code_word (m := ⟨1, 2⟩) (meth := k1m2) (c := k1c2) (by decide +kernel) rfl rfl rfl (by decide +kernel)
set_option maxRecDepth 65536 in
theorem w_c16 : (Jvm.Cond.code ({ cls := "SaturProver", name := "tokenAt", desc := "(I)I" } : Jvm.MethodName) prog_1_method_10_code (2 : Nat) (Option.some Jvm.ClassFile.FieldType.int)).before args0 about1 = true := code_word (m := ⟨2, 9⟩) (meth := k2m9) (c := k2c9) (by decide +kernel) rfl rfl rfl (by decide +kernel)
set_option maxRecDepth 65536 in
theorem w_c17 : (Jvm.Cond.code ({ cls := "SaturProver", name := "clear", desc := "()V" } : Jvm.MethodName) prog_1_method_4_code (1 : Nat) (Option.none : Option Jvm.ClassFile.FieldType)).before args0 about1 = true := code_word (m := ⟨2, 3⟩) (meth := k2m3) (c := k2c3) (by decide +kernel) rfl rfl rfl (by decide +kernel)
set_option maxRecDepth 65536 in
theorem w_c18 : (Jvm.Cond.code ({ cls := "SaturProver", name := "removeLast", desc := "()I" } : Jvm.MethodName) prog_1_method_3_code (2 : Nat) (Option.some Jvm.ClassFile.FieldType.int)).before args0 about1 = true := code_word (m := ⟨2, 2⟩) (meth := k2m2) (c := k2c2) (by decide +kernel) rfl rfl rfl (by decide +kernel)
set_option maxRecDepth 65536 in
theorem w_c19 : (Jvm.Cond.code ({ cls := "SaturProver", name := "satisfy", desc := "()I" } : Jvm.MethodName) prog_1_method_14_code (2 : Nat) (Option.some Jvm.ClassFile.FieldType.int)).before args0 about1 = true := code_word (m := ⟨2, 13⟩) (meth := k2m13) (c := k2c13) (by decide +kernel) rfl rfl rfl (by decide +kernel)
set_option maxRecDepth 65536 in
theorem w_c20 : (Jvm.Cond.code ({ cls := "SaturProver", name := "save", desc := "()I" } : Jvm.MethodName) prog_1_method_5_code (1 : Nat) (Option.some Jvm.ClassFile.FieldType.int)).before args0 about1 = true := code_word (m := ⟨2, 4⟩) (meth := k2m4) (c := k2c4) (by decide +kernel) rfl rfl rfl (by decide +kernel)
set_option maxRecDepth 65536 in
theorem w_c21 : (Jvm.Cond.code ({ cls := "SaturProver", name := "copyTokensToSaved", desc := "()V" } : Jvm.MethodName) prog_1_method_22_code (3 : Nat) (Option.none : Option Jvm.ClassFile.FieldType)).before args0 about1 = true := code_word (m := ⟨2, 21⟩) (meth := k2m21) (c := k2c21) (by decide +kernel) rfl rfl rfl (by decide +kernel)
set_option maxRecDepth 65536 in
theorem w_c22 : (Jvm.Cond.code ({ cls := "SaturProver", name := "ensureTableF", desc := "()V" } : Jvm.MethodName) prog_1_method_24_code (4 : Nat) (Option.none : Option Jvm.ClassFile.FieldType)).before args0 about1 = true := code_word (m := ⟨2, 23⟩) (meth := k2m23) (c := k2c23) (by decide +kernel) rfl rfl rfl (by decide +kernel)
set_option maxRecDepth 65536 in
theorem w_c23 : (Jvm.Cond.code ({ cls := "SaturProver", name := "step", desc := "(II)I" } : Jvm.MethodName) prog_1_method_26_code (4 : Nat) (Option.some Jvm.ClassFile.FieldType.int)).before args0 about1 = true := code_word (m := ⟨2, 25⟩) (meth := k2m25) (c := k2c25) (by decide +kernel) rfl rfl rfl (by decide +kernel)
set_option maxRecDepth 65536 in
theorem w_c24 : (Jvm.Cond.code ({ cls := "SaturProver", name := "pushLeaf", desc := "(II)V" } : Jvm.MethodName) prog_1_method_27_code (5 : Nat) (Option.none : Option Jvm.ClassFile.FieldType)).before args0 about1 = true := code_word (m := ⟨2, 26⟩) (meth := k2m26) (c := k2c26) (by decide +kernel) rfl rfl rfl (by decide +kernel)
set_option maxRecDepth 65536 in
theorem w_c25 : (Jvm.Cond.code ({ cls := "SaturProver", name := "leafWord", desc := "(II)J" } : Jvm.MethodName) prog_1_method_31_code (3 : Nat) (Option.some Jvm.ClassFile.FieldType.long)).before args0 about1 = true := code_word (m := ⟨2, 30⟩) (meth := k2m30) (c := k2c30) (by decide +kernel) rfl rfl rfl (by decide +kernel)
set_option maxRecDepth 65536 in
theorem w_c26 : (Jvm.Cond.code ({ cls := "SaturProver", name := "varWord", desc := "(II)J" } : Jvm.MethodName) prog_1_method_32_code (3 : Nat) (Option.some Jvm.ClassFile.FieldType.long)).before args0 about1 = true := code_word (m := ⟨2, 31⟩) (meth := k2m31) (c := k2c31) (by decide +kernel) rfl rfl rfl (by decide +kernel)
set_option maxRecDepth 65536 in
theorem w_c27 : (Jvm.Cond.code ({ cls := "SaturProver", name := "storeTopIntoF", desc := "(I)V" } : Jvm.MethodName) prog_1_method_25_code (5 : Nat) (Option.none : Option Jvm.ClassFile.FieldType)).before args0 about1 = true := code_word (m := ⟨2, 24⟩) (meth := k2m24) (c := k2c24) (by decide +kernel) rfl rfl rfl (by decide +kernel)
set_option maxRecDepth 65536 in
theorem w_c28 : (Jvm.Cond.code ({ cls := "SaturProver", name := "copyTableFToS", desc := "()V" } : Jvm.MethodName) prog_1_method_23_code (2 : Nat) (Option.none : Option Jvm.ClassFile.FieldType)).before args0 about1 = true := code_word (m := ⟨2, 22⟩) (meth := k2m22) (c := k2c22) (by decide +kernel) rfl rfl rfl (by decide +kernel)
set_option maxRecDepth 65536 in
theorem w_c29 : (Jvm.Cond.code ({ cls := "SaturProver", name := "equivalent", desc := "()I" } : Jvm.MethodName) prog_1_method_15_code (2 : Nat) (Option.some Jvm.ClassFile.FieldType.int)).before args0 about1 = true := code_word (m := ⟨2, 14⟩) (meth := k2m14) (c := k2c14) (by decide +kernel) rfl rfl rfl (by decide +kernel)
set_option maxRecDepth 65536 in
theorem w_c30 : (Jvm.Cond.code ({ cls := "SaturProver", name := "prove", desc := "()I" } : Jvm.MethodName) prog_1_method_13_code (2 : Nat) (Option.some Jvm.ClassFile.FieldType.int)).before args0 about1 = true := code_word (m := ⟨2, 12⟩) (meth := k2m12) (c := k2c12) (by decide +kernel) rfl rfl rfl (by decide +kernel)
set_option maxRecDepth 65536 in
theorem w_c31 : (Jvm.Cond.code ({ cls := "SaturProver", name := "loadWorkNegatedF", desc := "()V" } : Jvm.MethodName) prog_1_method_35_code (2 : Nat) (Option.none : Option Jvm.ClassFile.FieldType)).before args0 about1 = true := code_word (m := ⟨2, 34⟩) (meth := k2m34) (c := k2c34) (by decide +kernel) rfl rfl rfl (by decide +kernel)
set_option maxRecDepth 65536 in
theorem w_c32 : (Jvm.Cond.code ({ cls := "SaturProver", name := "firstSetInWork", desc := "()I" } : Jvm.MethodName) prog_1_method_37_code (4 : Nat) (Option.some Jvm.ClassFile.FieldType.int)).before args0 about1 = true := code_word (m := ⟨2, 36⟩) (meth := k2m36) (c := k2c36) (by decide +kernel) rfl rfl rfl (by decide +kernel)
set_option maxRecDepth 65536 in
theorem w_c33 : (Jvm.Cond.code ({ cls := "SaturProver", name := "lowestBit", desc := "(J)I" } : Jvm.MethodName) prog_1_method_38_code (10 : Nat) (Option.some Jvm.ClassFile.FieldType.int)).before args0 about1 = true := code_word (m := ⟨2, 37⟩) (meth := k2m37) (c := k2c37) (by decide +kernel) rfl rfl rfl (by decide +kernel)
set_option maxRecDepth 65536 in
theorem w_c34 : (Jvm.Cond.code ({ cls := "SaturProver", name := "setResult", desc := "(II)V" } : Jvm.MethodName) prog_1_method_20_code (3 : Nat) (Option.none : Option Jvm.ClassFile.FieldType)).before args0 about1 = true := code_word (m := ⟨2, 19⟩) (meth := k2m19) (c := k2c19) (by decide +kernel) rfl rfl rfl (by decide +kernel)
set_option maxRecDepth 65536 in
theorem w_c35 : (Jvm.Cond.code ({ cls := "SaturProverL6", name := "allBefore", desc := "(LSaturProver;II)Z" } : Jvm.MethodName) method_4_code (4 : Nat) (Option.some Jvm.ClassFile.FieldType.boolean)).before args0 about1 = true := code_word (m := ⟨1, 3⟩) (meth := k1m3) (c := k1c3) (by decide +kernel) rfl rfl rfl (by decide +kernel)
set_option maxRecDepth 65536 in
theorem w_c36 : (Jvm.Cond.code ({ cls := "SaturProver", name := "evaluate", desc := "(I)I" } : Jvm.MethodName) prog_1_method_12_code (2 : Nat) (Option.some Jvm.ClassFile.FieldType.int)).before args0 about1 = true := code_word (m := ⟨2, 11⟩) (meth := k2m11) (c := k2c11) (by decide +kernel) rfl rfl rfl (by decide +kernel)
set_option maxRecDepth 65536 in
theorem w_c37 : (Jvm.Cond.code ({ cls := "SaturProver", name := "bitOfF", desc := "(I)I" } : Jvm.MethodName) prog_1_method_33_code (5 : Nat) (Option.some Jvm.ClassFile.FieldType.int)).before args0 about1 = true := code_word (m := ⟨2, 32⟩) (meth := k2m32) (c := k2c32) (by decide +kernel) rfl rfl rfl (by decide +kernel)
set_option maxRecDepth 65536 in
theorem w_c38 : (Jvm.Cond.code ({ cls := "SaturProver", name := "negateSlot", desc := "(I)V" } : Jvm.MethodName) prog_1_method_28_code (4 : Nat) (Option.none : Option Jvm.ClassFile.FieldType)).before args0 about1 = true := code_word (m := ⟨2, 27⟩) (meth := k2m27) (c := k2c27) (by decide +kernel) rfl rfl rfl (by decide +kernel)
set_option maxRecDepth 65536 in
theorem w_c39 : (Jvm.Cond.code ({ cls := "SaturProver", name := "loadWorkDifference", desc := "()V" } : Jvm.MethodName) prog_1_method_36_code (2 : Nat) (Option.none : Option Jvm.ClassFile.FieldType)).before args0 about1 = true := code_word (m := ⟨2, 35⟩) (meth := k2m35) (c := k2c35) (by decide +kernel) rfl rfl rfl (by decide +kernel)
set_option maxRecDepth 65536 in
theorem w_c40 : (Jvm.Cond.code ({ cls := "SaturProver", name := "loadWorkF", desc := "()V" } : Jvm.MethodName) prog_1_method_34_code (2 : Nat) (Option.none : Option Jvm.ClassFile.FieldType)).before args0 about1 = true := code_word (m := ⟨2, 33⟩) (meth := k2m33) (c := k2c33) (by decide +kernel) rfl rfl rfl (by decide +kernel)
set_option maxRecDepth 65536 in
theorem w_c41 : (Jvm.Cond.code ({ cls := "SaturProver", name := "combineSlots", desc := "(II)V" } : Jvm.MethodName) prog_1_method_29_code (9 : Nat) (Option.none : Option Jvm.ClassFile.FieldType)).before args0 about1 = true := code_word (m := ⟨2, 28⟩) (meth := k2m28) (c := k2c28) (by decide +kernel) rfl rfl rfl (by decide +kernel)
set_option maxRecDepth 65536 in
theorem w_c42 : (Jvm.Cond.code ({ cls := "SaturProver", name := "combine", desc := "(IJJ)J" } : Jvm.MethodName) prog_1_method_30_code (6 : Nat) (Option.some Jvm.ClassFile.FieldType.long)).before args0 about1 = true := code_word (m := ⟨2, 29⟩) (meth := k2m29) (c := k2c29) (by decide +kernel) rfl rfl rfl (by decide +kernel)
def codes1 : List Jvm.Cond := [Jvm.Cond.code x code maxLocals ret, Jvm.Cond.code ({ cls := "SaturProver", name := "<init>", desc := "(I)V" } : Jvm.MethodName) prog_1_method_1_code (3 : Nat) (Option.none : Option Jvm.ClassFile.FieldType), Jvm.Cond.code ({ cls := "java/lang/Object", name := "<init>", desc := "()V" } : Jvm.MethodName) object_method_1_code (1 : Nat) (Option.none : Option Jvm.ClassFile.FieldType), Jvm.Cond.code ({ cls := "SaturProver", name := "resetResult", desc := "()V" } : Jvm.MethodName) prog_1_method_19_code (1 : Nat) (Option.none : Option Jvm.ClassFile.FieldType), Jvm.Cond.code ({ cls := "SaturProver", name := "pushToken", desc := "(I)I" } : Jvm.MethodName) prog_1_method_2_code (3 : Nat) (Option.some Jvm.ClassFile.FieldType.int), Jvm.Cond.code ({ cls := "SaturProver", name := "arity", desc := "(I)I" } : Jvm.MethodName) prog_1_method_21_code (2 : Nat) (Option.some Jvm.ClassFile.FieldType.int), Jvm.Cond.code ({ cls := "SaturProverL6", name := "ar", desc := "(I)I" } : Jvm.MethodName) method_2_code (1 : Nat) (Option.some Jvm.ClassFile.FieldType.int), Jvm.Cond.code ({ cls := "SaturProver", name := "length", desc := "()I" } : Jvm.MethodName) prog_1_method_6_code (1 : Nat) (Option.some Jvm.ClassFile.FieldType.int), Jvm.Cond.code ({ cls := "SaturProver", name := "depth", desc := "()I" } : Jvm.MethodName) prog_1_method_8_code (1 : Nat) (Option.some Jvm.ClassFile.FieldType.int), Jvm.Cond.code ({ cls := "SaturProver", name := "isComplete", desc := "()Z" } : Jvm.MethodName) prog_1_method_9_code (1 : Nat) (Option.some Jvm.ClassFile.FieldType.boolean), Jvm.Cond.code ({ cls := "SaturProver", name := "completeF", desc := "()Z" } : Jvm.MethodName) prog_1_method_18_code (1 : Nat) (Option.some Jvm.ClassFile.FieldType.boolean), Jvm.Cond.code ({ cls := "SaturProver", name := "savedLength", desc := "()I" } : Jvm.MethodName) prog_1_method_7_code (1 : Nat) (Option.some Jvm.ClassFile.FieldType.int), Jvm.Cond.code ({ cls := "SaturProver", name := "lastResult", desc := "()I" } : Jvm.MethodName) prog_1_method_16_code (1 : Nat) (Option.some Jvm.ClassFile.FieldType.int), Jvm.Cond.code ({ cls := "SaturProver", name := "witness", desc := "()I" } : Jvm.MethodName) prog_1_method_17_code (1 : Nat) (Option.some Jvm.ClassFile.FieldType.int), Jvm.Cond.code ({ cls := "SaturProver", name := "usedVars", desc := "()I" } : Jvm.MethodName) prog_1_method_11_code (4 : Nat) (Option.some Jvm.ClassFile.FieldType.int), Jvm.Cond.code ({ cls := "SaturProverL6", name := "usedOf", desc := "(JI)I" } : Jvm.MethodName) method_3_code (6 : Nat) (Option.some Jvm.ClassFile.FieldType.int), Jvm.Cond.code ({ cls := "SaturProver", name := "tokenAt", desc := "(I)I" } : Jvm.MethodName) prog_1_method_10_code (2 : Nat) (Option.some Jvm.ClassFile.FieldType.int), Jvm.Cond.code ({ cls := "SaturProver", name := "clear", desc := "()V" } : Jvm.MethodName) prog_1_method_4_code (1 : Nat) (Option.none : Option Jvm.ClassFile.FieldType), Jvm.Cond.code ({ cls := "SaturProver", name := "removeLast", desc := "()I" } : Jvm.MethodName) prog_1_method_3_code (2 : Nat) (Option.some Jvm.ClassFile.FieldType.int), Jvm.Cond.code ({ cls := "SaturProver", name := "satisfy", desc := "()I" } : Jvm.MethodName) prog_1_method_14_code (2 : Nat) (Option.some Jvm.ClassFile.FieldType.int), Jvm.Cond.code ({ cls := "SaturProver", name := "save", desc := "()I" } : Jvm.MethodName) prog_1_method_5_code (1 : Nat) (Option.some Jvm.ClassFile.FieldType.int), Jvm.Cond.code ({ cls := "SaturProver", name := "copyTokensToSaved", desc := "()V" } : Jvm.MethodName) prog_1_method_22_code (3 : Nat) (Option.none : Option Jvm.ClassFile.FieldType), Jvm.Cond.code ({ cls := "SaturProver", name := "ensureTableF", desc := "()V" } : Jvm.MethodName) prog_1_method_24_code (4 : Nat) (Option.none : Option Jvm.ClassFile.FieldType), Jvm.Cond.code ({ cls := "SaturProver", name := "step", desc := "(II)I" } : Jvm.MethodName) prog_1_method_26_code (4 : Nat) (Option.some Jvm.ClassFile.FieldType.int), Jvm.Cond.code ({ cls := "SaturProver", name := "pushLeaf", desc := "(II)V" } : Jvm.MethodName) prog_1_method_27_code (5 : Nat) (Option.none : Option Jvm.ClassFile.FieldType), Jvm.Cond.code ({ cls := "SaturProver", name := "leafWord", desc := "(II)J" } : Jvm.MethodName) prog_1_method_31_code (3 : Nat) (Option.some Jvm.ClassFile.FieldType.long), Jvm.Cond.code ({ cls := "SaturProver", name := "varWord", desc := "(II)J" } : Jvm.MethodName) prog_1_method_32_code (3 : Nat) (Option.some Jvm.ClassFile.FieldType.long), Jvm.Cond.code ({ cls := "SaturProver", name := "storeTopIntoF", desc := "(I)V" } : Jvm.MethodName) prog_1_method_25_code (5 : Nat) (Option.none : Option Jvm.ClassFile.FieldType), Jvm.Cond.code ({ cls := "SaturProver", name := "copyTableFToS", desc := "()V" } : Jvm.MethodName) prog_1_method_23_code (2 : Nat) (Option.none : Option Jvm.ClassFile.FieldType), Jvm.Cond.code ({ cls := "SaturProver", name := "equivalent", desc := "()I" } : Jvm.MethodName) prog_1_method_15_code (2 : Nat) (Option.some Jvm.ClassFile.FieldType.int), Jvm.Cond.code ({ cls := "SaturProver", name := "prove", desc := "()I" } : Jvm.MethodName) prog_1_method_13_code (2 : Nat) (Option.some Jvm.ClassFile.FieldType.int), Jvm.Cond.code ({ cls := "SaturProver", name := "loadWorkNegatedF", desc := "()V" } : Jvm.MethodName) prog_1_method_35_code (2 : Nat) (Option.none : Option Jvm.ClassFile.FieldType), Jvm.Cond.code ({ cls := "SaturProver", name := "firstSetInWork", desc := "()I" } : Jvm.MethodName) prog_1_method_37_code (4 : Nat) (Option.some Jvm.ClassFile.FieldType.int), Jvm.Cond.code ({ cls := "SaturProver", name := "lowestBit", desc := "(J)I" } : Jvm.MethodName) prog_1_method_38_code (10 : Nat) (Option.some Jvm.ClassFile.FieldType.int), Jvm.Cond.code ({ cls := "SaturProver", name := "setResult", desc := "(II)V" } : Jvm.MethodName) prog_1_method_20_code (3 : Nat) (Option.none : Option Jvm.ClassFile.FieldType), Jvm.Cond.code ({ cls := "SaturProverL6", name := "allBefore", desc := "(LSaturProver;II)Z" } : Jvm.MethodName) method_4_code (4 : Nat) (Option.some Jvm.ClassFile.FieldType.boolean), Jvm.Cond.code ({ cls := "SaturProver", name := "evaluate", desc := "(I)I" } : Jvm.MethodName) prog_1_method_12_code (2 : Nat) (Option.some Jvm.ClassFile.FieldType.int), Jvm.Cond.code ({ cls := "SaturProver", name := "bitOfF", desc := "(I)I" } : Jvm.MethodName) prog_1_method_33_code (5 : Nat) (Option.some Jvm.ClassFile.FieldType.int), Jvm.Cond.code ({ cls := "SaturProver", name := "negateSlot", desc := "(I)V" } : Jvm.MethodName) prog_1_method_28_code (4 : Nat) (Option.none : Option Jvm.ClassFile.FieldType), Jvm.Cond.code ({ cls := "SaturProver", name := "loadWorkDifference", desc := "()V" } : Jvm.MethodName) prog_1_method_36_code (2 : Nat) (Option.none : Option Jvm.ClassFile.FieldType), Jvm.Cond.code ({ cls := "SaturProver", name := "loadWorkF", desc := "()V" } : Jvm.MethodName) prog_1_method_34_code (2 : Nat) (Option.none : Option Jvm.ClassFile.FieldType), Jvm.Cond.code ({ cls := "SaturProver", name := "combineSlots", desc := "(II)V" } : Jvm.MethodName) prog_1_method_29_code (9 : Nat) (Option.none : Option Jvm.ClassFile.FieldType), Jvm.Cond.code ({ cls := "SaturProver", name := "combine", desc := "(IJJ)J" } : Jvm.MethodName) prog_1_method_30_code (6 : Nat) (Option.some Jvm.ClassFile.FieldType.long)]
set_option maxRecDepth 65536 in
theorem codes_eq : words1.filter isCode = codes1 := rfl
theorem w_codes : ∀ c ∈ words1.filter isCode, c.before args0 about1 = true := by
  rw [codes_eq]
  intro c hc
  simp only [codes1, List.mem_cons, List.not_mem_nil, or_false] at hc
  rcases hc with rfl | rfl | rfl | rfl | rfl | rfl | rfl | rfl | rfl | rfl | rfl | rfl | rfl | rfl | rfl | rfl | rfl | rfl | rfl | rfl | rfl | rfl | rfl | rfl | rfl | rfl | rfl | rfl | rfl | rfl | rfl | rfl | rfl | rfl | rfl | rfl | rfl | rfl | rfl | rfl | rfl | rfl | rfl
  · exact w_c0
  · exact w_c1
  · exact w_c2
  · exact w_c3
  · exact w_c4
  · exact w_c5
  · exact w_c6
  · exact w_c7
  · exact w_c8
  · exact w_c9
  · exact w_c10
  · exact w_c11
  · exact w_c12
  · exact w_c13
  · exact w_c14
  · exact w_c15
  · exact w_c16
  · exact w_c17
  · exact w_c18
  · exact w_c19
  · exact w_c20
  · exact w_c21
  · exact w_c22
  · exact w_c23
  · exact w_c24
  · exact w_c25
  · exact w_c26
  · exact w_c27
  · exact w_c28
  · exact w_c29
  · exact w_c30
  · exact w_c31
  · exact w_c32
  · exact w_c33
  · exact w_c34
  · exact w_c35
  · exact w_c36
  · exact w_c37
  · exact w_c38
  · exact w_c39
  · exact w_c40
  · exact w_c41
  · exact w_c42
set_option maxRecDepth 65536 in
theorem w_t1 : (words1.take 24).all (fun c => isCode c || c.before args0 about1) = true := by decide +kernel
set_option maxRecDepth 65536 in
theorem w_t2 : ((words1.drop 24).take 24).all (fun c => isCode c || c.before args0 about1) = true := by decide +kernel
set_option maxRecDepth 65536 in
theorem w_t3 : (((words1.drop 24).drop 24).take 24).all (fun c => isCode c || c.before args0 about1) = true := by decide +kernel
set_option maxRecDepth 65536 in
theorem w_t4 : ((((words1.drop 24).drop 24).drop 24).take 24).all (fun c => isCode c || c.before args0 about1) = true := by decide +kernel
set_option maxRecDepth 65536 in
theorem w_t5 : (((((words1.drop 24).drop 24).drop 24).drop 24).take 24).all (fun c => isCode c || c.before args0 about1) = true := by decide +kernel
set_option maxRecDepth 65536 in
theorem w_t6 : ((((((words1.drop 24).drop 24).drop 24).drop 24).drop 24).take 24).all (fun c => isCode c || c.before args0 about1) = true := by decide +kernel
set_option maxRecDepth 65536 in
theorem w_t7 : (((((((words1.drop 24).drop 24).drop 24).drop 24).drop 24).drop 24).take 24).all (fun c => isCode c || c.before args0 about1) = true := by decide +kernel
set_option maxRecDepth 65536 in
theorem w_t8 : ((((((((words1.drop 24).drop 24).drop 24).drop 24).drop 24).drop 24).drop 24).take 24).all (fun c => isCode c || c.before args0 about1) = true := by decide +kernel
set_option maxRecDepth 65536 in
theorem w_t9 : (((((((((words1.drop 24).drop 24).drop 24).drop 24).drop 24).drop 24).drop 24).drop 24).take 24).all (fun c => isCode c || c.before args0 about1) = true := by decide +kernel
set_option maxRecDepth 65536 in
theorem w_t10 : (((((((((words1.drop 24).drop 24).drop 24).drop 24).drop 24).drop 24).drop 24).drop 24).drop 24).all (fun c => isCode c || c.before args0 about1) = true := by decide +kernel
theorem w_tables : (allAtoms (Jvm.Cond.code x code maxLocals ret :: tables_1)).before args0 about1 = true := by
  rw [allAtoms_all]
  show words1.all (fun c => c.before args0 about1) = true
  refine all_split ?_ w_codes
  rw [← List.take_append_drop 24 words1, List.all_append, w_t1, ← List.take_append_drop 24 (words1.drop 24), List.all_append, w_t2, ← List.take_append_drop 24 ((words1.drop 24).drop 24), List.all_append, w_t3, ← List.take_append_drop 24 (((words1.drop 24).drop 24).drop 24), List.all_append, w_t4, ← List.take_append_drop 24 ((((words1.drop 24).drop 24).drop 24).drop 24), List.all_append, w_t5, ← List.take_append_drop 24 (((((words1.drop 24).drop 24).drop 24).drop 24).drop 24), List.all_append, w_t6, ← List.take_append_drop 24 ((((((words1.drop 24).drop 24).drop 24).drop 24).drop 24).drop 24), List.all_append, w_t7, ← List.take_append_drop 24 (((((((words1.drop 24).drop 24).drop 24).drop 24).drop 24).drop 24).drop 24), List.all_append, w_t8, ← List.take_append_drop 24 ((((((((words1.drop 24).drop 24).drop 24).drop 24).drop 24).drop 24).drop 24).drop 24), List.all_append, w_t9, w_t10]
  rfl
set_option maxRecDepth 65536 in
theorem w_rest : rest_1_c.before args0 about1 = true := by decide +kernel
set_option maxRecDepth 65536 in
theorem w_case : (Jvm.Cond.and given_1 narrow_1).before args0 about1 = true := by decide +kernel
theorem w_applies : (headSpec (Jvm.Cond.code x code maxLocals ret :: tables_1) room_1).applies x e0.platform about1 = true :=
  (Spec.applies_iff w_frames).mpr ⟨w_running, w_runnable, w_alone, w_named, w_hears, w_ripe, w_room, w_tables⟩
theorem atStart : AtStart classFile x code maxLocals ret World_1 tables_1 room_1 Calls_1 rest_1 Pre_1 launch0 p0 e0 about1 theMethod args0 below0 :=
  ⟨lists_1, trivial, launch0.admits_env _ _ _, launch0.least_env, fairChoices_fair.cas, fairChoices_fair.clock, w_frames, w_args, w_heap, w_applies, trivial, w_rest, w_case⟩
end start1
theorem witness_1 : WitnessClaimed_1 := ⟨start1.p0, start1.e0, start1.about1, start1.theMethod, start1.args0, start1.below0, start1.atStart⟩
end Jvm.Pilot.@@N@@
