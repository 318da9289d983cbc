/- Plain laws about what the functions compute, the second part; no condition. -/
import Derived.Test.YtmnplpijeakjiaaGreatL4Pa
set_option linter.unusedVariables false
set_option linter.unusedSimpArgs false
namespace Go.Den.L4
open Go Go.IntWalk
theorem ksg (l:Rw) (h:∀r∈l,typL ky r) (hs:∀r∈l,szdL ky r) (hl:l.length≤4000000) (k:Int) (h0:0≤k) (hk:k+kf l≤4000000000000000000):t39 l k=some ([.one (.i .i64 (k+kf l))],[[.l (kab k l)]]):=by
 unfold t39 ta39
 exact markNodeS_loop _ _ (fun _ _ _ _=>rfl) l [] KK k _ h hs (by rw [kl];omega) (by simpa using hl) h0 hk
set_option maxHeartbeats 4000000 in theorem heldNodeS_loop (n9 : Int) (q1 : Int → Int → Bool → Bool → SV → SV → SV → SV → SV → SV → SV → SV → SV → SV → SV → SV → SV → SV → SV → SV → SV → SV → SV → SV → SV → SV → SV → SV → SV → SV → SV → SV → SV → Rs) (q2 : Int → Int → Bool → Bool → Bool → SV → SV → SV → SV → SV → SV → SV → SV → SV → SV → SV → SV → SV → SV → SV → SV → SV → SV → SV → SV → SV → SV → SV → SV → SV → SV → SV → SV → Rs) (q3 : Int → Int → Bool → Bool → Bool → Bool → SV → SV → SV → SV → SV → SV → SV → SV → SV → SV → SV → SV → SV → SV → SV → SV → SV → SV → SV → SV → SV → SV → SV → SV → SV → SV → SV → Rs) (q4 : Int → Int → Bool → Bool → Bool → Bool → Bool → SV → SV → SV → SV → SV → SV → SV → SV → SV → SV → SV → SV → SV → SV → SV → SV → SV → SV → SV → SV → SV → SV → SV → SV → SV → SV → Rs) (q5 : Int → Int → Bool → Bool → Bool → Bool → Bool → Bool → SV → SV → SV → SV → SV → SV → SV → SV → SV → SV → SV → SV → SV → SV → SV → SV → SV → SV → SV → SV → SV → SV → SV → SV → SV → Rs) (q6 : Int → Int → Bool → Bool → Bool → Bool → Bool → Bool → Bool → SV → SV → SV → SV → SV → SV → SV → SV → SV → SV → SV → SV → SV → SV → SV → SV → SV → SV → SV → SV → SV → SV → SV → SV → Rs) (q7 : Int → Int → Bool → Bool → Bool → Bool → Bool → Bool → Bool → Bool → SV → SV → SV → SV → SV → SV → SV → SV → SV → SV → SV → SV → SV → SV → SV → SV → SV → SV → SV → SV → SV → SV → SV → Rs) (q8 : Int → Int → Bool → Bool → Bool → Bool → Bool → Bool → Bool → Bool → Bool → SV → SV → SV → SV → SV → SV → SV → SV → SV → SV → SV → SV → SV → SV → SV → SV → SV → SV → SV → SV → SV → SV → Rs) (q9 : Int → Int → Bool → Bool → Bool → Bool → Bool → Bool → Bool → Bool → Bool → Bool → SV → SV → SV → SV → SV → SV → SV → SV → SV → SV → SV → SV → SV → SV → SV → SV → SV → SV → SV → SV → SV → Rs) (q10 : Int → Int → Bool → Bool → Bool → Bool → Bool → Bool → Bool → Bool → Bool → Bool → Bool → SV → SV → SV → SV → SV → SV → SV → SV → SV → SV → SV → SV → SV → SV → SV → SV → SV → SV → SV → SV → Rs) (q11 : Int → Int → Bool → Bool → Bool → Bool → Bool → Bool → Bool → Bool → Bool → Bool → Bool → Bool → SV → SV → SV → SV → SV → SV → SV → SV → SV → SV → SV → SV → SV → SV → SV → SV → SV → SV → SV → Rs) (q12 : Int → Int → Bool → Bool → Bool → Bool → Bool → Bool → Bool → Bool → Bool → Bool → Bool → Bool → Bool → SV → SV → SV → SV → SV → SV → SV → SV → SV → SV → SV → SV → SV → SV → SV → SV → SV → SV → Rs) (q13 : Int → Int → Bool → Bool → Bool → Bool → Bool → Bool → Bool → Bool → Bool → Bool → Bool → Bool → Bool → Bool → SV → SV → SV → SV → SV → SV → SV → SV → SV → SV → SV → SV → SV → SV → SV → SV → SV → Rs) (q14 : Int → Int → Bool → Bool → Bool → Bool → Bool → Bool → Bool → Bool → Bool → Bool → Bool → Bool → Bool → Bool → Bool → SV → SV → SV → SV → SV → SV → SV → SV → SV → SV → SV → SV → SV → SV → SV → SV → Rs) (q15 : Int → Int → Bool → Bool → Bool → Bool → Bool → Bool → Bool → Bool → Bool → Bool → Bool → Bool → Bool → Bool → Bool → Bool → SV → SV → SV → SV → SV → SV → SV → SV → SV → SV → SV → SV → SV → SV → SV → Rs) (q16 : Int → Int → Bool → Bool → Bool → Bool → Bool → Bool → Bool → Bool → Bool → Bool → Bool → Bool → Bool → Bool → Bool → Bool → Bool → SV → SV → SV → SV → SV → SV → SV → SV → SV → SV → SV → SV → SV → SV → Rs) (q17 : Int → Int → Bool → Bool → Bool → Bool → Bool → Bool → Bool → Bool → Bool → Bool → Bool → Bool → Bool → Bool → Bool → Bool → Bool → Bool → SV → SV → SV → SV → SV → SV → SV → SV → SV → SV → SV → SV → SV → Rs) (q18 : Int → Int → Bool → Bool → Bool → Bool → Bool → Bool → Bool → Bool → Bool → Bool → Bool → Bool → Bool → Bool → Bool → Bool → Bool → Bool → Bool → SV → SV → SV → SV → SV → SV → SV → SV → SV → SV → SV → SV → Rs) (q19 : Int → Int → Bool → Bool → Bool → Bool → Bool → Bool → Bool → Bool → Bool → Bool → Bool → Bool → Bool → Bool → Bool → Bool → Bool → Bool → Bool → Bool → SV → SV → SV → SV → SV → SV → SV → SV → SV → SV → SV → Rs) (q20 : Int → Int → Bool → Bool → Bool → Bool → Bool → Bool → Bool → Bool → Bool → Bool → Bool → Bool → Bool → Bool → Bool → Bool → Bool → Bool → Bool → Bool → Bool → SV → SV → SV → SV → SV → SV → SV → SV → SV → SV → Rs) (q21 : Int → Int → Bool → Bool → Bool → Bool → Bool → Bool → Bool → Bool → Bool → Bool → Bool → Bool → Bool → Bool → Bool → Bool → Bool → Bool → Bool → Bool → Bool → Bool → SV → SV → SV → SV → SV → SV → SV → SV → SV → Rs) (q22 : Int → Int → Bool → Bool → Bool → Bool → Bool → Bool → Bool → Bool → Bool → Bool → Bool → Bool → Bool → Bool → Bool → Bool → Bool → Bool → Bool → Bool → Bool → Bool → Bool → SV → SV → SV → SV → SV → SV → SV → SV → Rs) (q23 : Int → Int → Bool → Bool → Bool → Bool → Bool → Bool → Bool → Bool → Bool → Bool → Bool → Bool → Bool → Bool → Bool → Bool → Bool → Bool → Bool → Bool → Bool → Bool → Bool → Bool → SV → SV → SV → SV → SV → SV → SV → Rs) (q24 : Int → Int → Bool → Bool → Bool → Bool → Bool → Bool → Bool → Bool → Bool → Bool → Bool → Bool → Bool → Bool → Bool → Bool → Bool → Bool → Bool → Bool → Bool → Bool → Bool → Bool → Bool → SV → SV → SV → SV → SV → SV → Rs) (q25 : Int → Int → Bool → Bool → Bool → Bool → Bool → Bool → Bool → Bool → Bool → Bool → Bool → Bool → Bool → Bool → Bool → Bool → Bool → Bool → Bool → Bool → Bool → Bool → Bool → Bool → Bool → Bool → SV → SV → SV → SV → SV → Rs) (q26 : Int → Int → Bool → Bool → Bool → Bool → Bool → Bool → Bool → Bool → Bool → Bool → Bool → Bool → Bool → Bool → Bool → Bool → Bool → Bool → Bool → Bool → Bool → Bool → Bool → Bool → Bool → Bool → Bool → SV → SV → SV → SV → Rs) (q27 : Int → Int → Bool → Bool → Bool → Bool → Bool → Bool → Bool → Bool → Bool → Bool → Bool → Bool → Bool → Bool → Bool → Bool → Bool → Bool → Bool → Bool → Bool → Bool → Bool → Bool → Bool → Bool → Bool → Bool → SV → SV → SV → Rs) (q28 : Int → Int → Bool → Bool → Bool → Bool → Bool → Bool → Bool → Bool → Bool → Bool → Bool → Bool → Bool → Bool → Bool → Bool → Bool → Bool → Bool → Bool → Bool → Bool → Bool → Bool → Bool → Bool → Bool → Bool → Bool → SV → SV → Rs) (q29 : Int → Int → Bool → Bool → Bool → Bool → Bool → Bool → Bool → Bool → Bool → Bool → Bool → Bool → Bool → Bool → Bool → Bool → Bool → Bool → Bool → Bool → Bool → Bool → Bool → Bool → Bool → Bool → Bool → Bool → Bool → Bool → SV → Rs) (q30 : Int → Int → Bool → Bool → Bool → Bool → Bool → Bool → Bool → Bool → Bool → Bool → Bool → Bool → Bool → Bool → Bool → Bool → Bool → Bool → Bool → Bool → Bool → Bool → Bool → Bool → Bool → Bool → Bool → Bool → Bool → Bool → Bool → Rs) (q31 : Int → Int → Bool → SV → SV → SV → SV → SV → SV → SV → SV → SV → SV → SV → SV → SV → SV → SV → SV → SV → SV → SV → SV → SV → SV → SV → SV → SV → SV → SV → SV → SV → SV → Rs) (hq : ∀ z0 z1 z2 z3 z4 z5 z6 z7 z8 z9 z10 z11 z12 z13 z14 z15 z16 z17 z18 z19 z20 z21 z22 z23 z24 z25 z26 z27 z28 z29 z30 z31 z32, q31 z0 z1 z2 z3 z4 z5 z6 z7 z8 z9 z10 z11 z12 z13 z14 z15 z16 z17 z18 z19 z20 z21 z22 z23 z24 z25 z26 z27 z28 z29 z30 z31 z32 = some ([.one (.i .i64 z0)], [])) : ∀ (b a : Rw) (m : Nat) (k : Int) (v11 v12 v13 v14 v15 v16 v17 v18 v19 v20 v21 v22 v23 v24 v25 v26 v27 v28 v29 v30 v31 v32 v33 v34 v35 v36 v37 v38 v39 v40 v41 : SV) (L : Rw) (i : Int), (∀ r ∈ b, typL ky r) → (∀ r ∈ b, szdL ky r) → L = a ++ kab k b → i = (a.length : Int) → b.length < m → a.length + b.length ≤ 4000000 → 0 ≤ k → k + kf b ≤ 4000000000000000000 →
  la43o0 t31 t33 t46 t71 t72 t77 L n9 q1 q2 q3 q4 q5 q6 q7 q8 q9 q10 q11 q12 q13 q14 q15 q16 q17 q18 q19 q20 q21 q22 q23 q24 q25 q26 q27 q28 q29 q30 q31 m k i v11 v12 v13 v14 v15 v16 v17 v18 v19 v20 v21 v22 v23 v24 v25 v26 v27 v28 v29 v30 v31 v32 v33 v34 v35 v36 v37 v38 v39 v40 v41=some ([.one (.i .i64 (k+kf b))],[]):=by
 intro b
 induction b with
 | nil =>
  intro a m k v11 v12 v13 v14 v15 v16 v17 v18 v19 v20 v21 v22 v23 v24 v25 v26 v27 v28 v29 v30 v31 v32 v33 v34 v35 v36 v37 v38 v39 v40 v41 L i h hs hL hi hm hl h0 hk
  subst hL hi
  obtain ⟨m,rfl⟩:∃m',m=m' + 1:=⟨m - 1,by omega⟩
  have e:decide ((a.length:Int) < ((a++([]:Rw)).length:Int))=false:=by simp
  have e2:k+kf []=k:=by simp [kf]
  rw [show kab k []=[] from rfl]
  simp only [la43o0,e,bft,if_false,hq,e2]
 | cons r b ih =>
  intro a m k v11 v12 v13 v14 v15 v16 v17 v18 v19 v20 v21 v22 v23 v24 v25 v26 v27 v28 v29 v30 v31 v32 v33 v34 v35 v36 v37 v38 v39 v40 v41 L i h hs hL hi hm hl h0 hk
  subst hL hi
  obtain ⟨m,rfl⟩:∃m',m=m' + 1:=⟨m - 1,by omega⟩
  simp only [List.length_cons] at hm hl
  have hz:=hs r (List.mem_cons_self ..)
  obtain ⟨x1,x2,x3,x4,x5,x6,x7,x8,x9,x10,x11,x12,x13,x14,x15,x16,x17,x18,x19,x20,x21,x22,x23,x24,x25,x26,x27,x28,x29,x30,rfl,wx12,tx12,wx14,tx14,wx15,tx15,wx16,tx16,wx17,tx17,wx20,wx25,wx26,tx26,wx27,tx27,wx28,tx28⟩:=kee (h r (List.mem_cons_self ..))
  have hb:∀r∈b,typL ky r:=fun r hr=>h r (List.mem_cons_of_mem _ hr)
  have hb2:∀r∈b,szdL ky r:=fun r hr=>hs r (List.mem_cons_of_mem _ hr)
  have sx12:x12.length≤1048576∧∀r∈x12,szdL ki r:=hz.2.2.2.2.2.2.2.2.2.2.2.1
  have sx14:x14.length≤1048576∧∀r∈x14,szdL kr r:=hz.2.2.2.2.2.2.2.2.2.2.2.2.2.1
  have sx15:x15.length≤1048576∧∀r∈x15,szdL kr r:=hz.2.2.2.2.2.2.2.2.2.2.2.2.2.2.1
  have sx16:x16.length≤1048576∧∀r∈x16,szdL kr r:=hz.2.2.2.2.2.2.2.2.2.2.2.2.2.2.2.1
  have sx17:x17.length≤1048576∧∀r∈x17,szdL ko r:=hz.2.2.2.2.2.2.2.2.2.2.2.2.2.2.2.2.1
  have sx26:x26.length≤1048576∧∀r∈x26,szdL ki r:=hz.2.2.2.2.2.2.2.2.2.2.2.2.2.2.2.2.2.2.2.2.2.2.2.2.2.1
  have sx27:x27.length≤1048576∧∀r∈x27,szdL kcc r:=hz.2.2.2.2.2.2.2.2.2.2.2.2.2.2.2.2.2.2.2.2.2.2.2.2.2.2.1
  have sx28:x28.length≤1048576∧∀r∈x28,szdL kdd r:=hz.2.2.2.2.2.2.2.2.2.2.2.2.2.2.2.2.2.2.2.2.2.2.2.2.2.2.2.1
  have lx12:=sx12.1
  have lx14:=sx14.1
  have lx15:=sx15.1
  have lx16:=sx16.1
  have lx17:=sx17.1
  have lx26:=sx26.1
  have lx27:=sx27.1
  have lx28:=sx28.1
  have qx17:=kzb x17
  have nb:=klc b
  have hw:=kg a.length (by omega)
  have hmb:b.length < m:=by omega
  have hlb:∀r:List D,(a++[r]).length+b.length≤4000000:=fun r=>by simp;omega
  have e1:∀(r:List D) (b:Rw),decide ((a.length:Int) < ((a++r :: b).length:Int))=true:=fun r b=>decide_eq_true (by simp;omega)
  have e0:decide (0≤(a.length:Int))=true:=decide_eq_true (by omega)
  have eg:∀(r:List D) (b:Rw),(a++r :: b).getD a.length []=r:=fun r b=>kmb a b r _ rfl
  have e6:k+kec [.i .i64 x1,.i .i64 x2,.b x3,.i .i64 x4,.i .i64 x5,.i .i64 x6,.i .i64 x7,.i .i64 x8,.i .i64 x9,.i .i64 x10,.i .i64 x11,.l x12,.i .i64 x13,.l x14,.l x15,.l x16,.l x17,.i .i64 x18,.i .i64 x19,.s x20,.i .i64 x21,.i .i64 x22,.i .i64 x23,.i .i64 x24,.s x25,.l x26,.l x27,.l x28,.i .i64 x29,.i .i64 x30]=k+1+1+1+1+1+1+1+1+1+1+1+2 * (x12.length:Int)+1+1 * (x14.length:Int)+1 * (x15.length:Int)+1 * (x16.length:Int)+kc x17+1+1+1+1+1+1+1+1+2 * (x26.length:Int)+5 * (x27.length:Int)+9 * (x28.length:Int)+1+1:=by simp only [kec,nthD,asL];omega
  have e7:k+kf ([.i .i64 x1,.i .i64 x2,.b x3,.i .i64 x4,.i .i64 x5,.i .i64 x6,.i .i64 x7,.i .i64 x8,.i .i64 x9,.i .i64 x10,.i .i64 x11,.l x12,.i .i64 x13,.l x14,.l x15,.l x16,.l x17,.i .i64 x18,.i .i64 x19,.s x20,.i .i64 x21,.i .i64 x22,.i .i64 x23,.i .i64 x24,.s x25,.l x26,.l x27,.l x28,.i .i64 x29,.i .i64 x30] :: b)=k+1+1+1+1+1+1+1+1+1+1+1+2 * (x12.length:Int)+1+1 * (x14.length:Int)+1 * (x15.length:Int)+1 * (x16.length:Int)+kc x17+1+1+1+1+1+1+1+1+2 * (x26.length:Int)+5 * (x27.length:Int)+9 * (x28.length:Int)+1+1+kf b:=by rw [kf,←Int.add_assoc,e6]
  rw [e7] at hk
  obtain ⟨u0,u1,u2,u3,u4,u5,u6,u7,u8,u9,u10,u12,u17,u18,u19,u20,u21,u22,u23,u24,u28,u29,y19,y24,ga11,gb11,gc11,ga13,gb13,gc13,ga14,gb14,gc14,ga15,gb15,gc15,ga16,gb16,gc16,ga25,gb25,gc25,ga26,gb26,gc26,ga27,gb27,gc27,gf⟩:=kgj k (x12.length:Int) (x14.length:Int) (x15.length:Int) (x16.length:Int) (kc x17) (x26.length:Int) (x27.length:Int) (x28.length:Int) (kf b) h0 (Int.natCast_nonneg _) (Int.natCast_nonneg _) (Int.natCast_nonneg _) (Int.natCast_nonneg _) qx17 (Int.natCast_nonneg _) (Int.natCast_nonneg _) (Int.natCast_nonneg _) nb hk
  have t19:=kk (k+1+1+1+1+1+1+1+1+1+1+1+2 * (x12.length:Int)+1+1 * (x14.length:Int)+1 * (x15.length:Int)+1 * (x16.length:Int)+kc x17+1+1) y19
  have t24:=kk (k+1+1+1+1+1+1+1+1+1+1+1+2 * (x12.length:Int)+1+1 * (x14.length:Int)+1 * (x15.length:Int)+1 * (x16.length:Int)+kc x17+1+1+1+1+1+1+1) y24
  have m11:=kqc x12 (Nat.le_trans lx12 (by decide)) (k+1+1+1+1+1+1+1+1+1+1+1) ga11 gb11
  have o11:∀z,okR zr46 zo46 (some ([.one (.i .i64 z)],[]))=true:=fun _=>rfl
  have i11:∀z,asI (resC (some ([.one (.i .i64 z)],[])) 0 0)=z:=fun _=>rfl
  have n11:decide (k+1+1+1+1+1+1+1+1+1+1+1+2 * (x12.length:Int) < 0)=false:=decide_eq_false (Int.not_lt.2 gc11)
  have m13:=kid x14 (Nat.le_trans lx14 (by decide)) (k+1+1+1+1+1+1+1+1+1+1+1+2 * (x12.length:Int)+1) ga13 gb13
  have o13:∀z,okR zr72 zo72 (some ([.one (.i .i64 z)],[]))=true:=fun _=>rfl
  have i13:∀z,asI (resC (some ([.one (.i .i64 z)],[])) 0 0)=z:=fun _=>rfl
  have n13:decide (k+1+1+1+1+1+1+1+1+1+1+1+2 * (x12.length:Int)+1+1 * (x14.length:Int) < 0)=false:=decide_eq_false (Int.not_lt.2 gc13)
  have m14:=kid x15 (Nat.le_trans lx15 (by decide)) (k+1+1+1+1+1+1+1+1+1+1+1+2 * (x12.length:Int)+1+1 * (x14.length:Int)) ga14 gb14
  have o14:∀z,okR zr72 zo72 (some ([.one (.i .i64 z)],[]))=true:=fun _=>rfl
  have i14:∀z,asI (resC (some ([.one (.i .i64 z)],[])) 0 0)=z:=fun _=>rfl
  have n14:decide (k+1+1+1+1+1+1+1+1+1+1+1+2 * (x12.length:Int)+1+1 * (x14.length:Int)+1 * (x15.length:Int) < 0)=false:=decide_eq_false (Int.not_lt.2 gc14)
  have m15:=kid x16 (Nat.le_trans lx16 (by decide)) (k+1+1+1+1+1+1+1+1+1+1+1+2 * (x12.length:Int)+1+1 * (x14.length:Int)+1 * (x15.length:Int)) ga15 gb15
  have o15:∀z,okR zr72 zo72 (some ([.one (.i .i64 z)],[]))=true:=fun _=>rfl
  have i15:∀z,asI (resC (some ([.one (.i .i64 z)],[])) 0 0)=z:=fun _=>rfl
  have n15:decide (k+1+1+1+1+1+1+1+1+1+1+1+2 * (x12.length:Int)+1+1 * (x14.length:Int)+1 * (x15.length:Int)+1 * (x16.length:Int) < 0)=false:=decide_eq_false (Int.not_lt.2 gc15)
  have m16:=kcf x17 tx17 sx17.2 (Nat.le_trans lx17 (by decide)) (k+1+1+1+1+1+1+1+1+1+1+1+2 * (x12.length:Int)+1+1 * (x14.length:Int)+1 * (x15.length:Int)+1 * (x16.length:Int)) ga16 gb16
  have o16:∀z,okR zr31 zo31 (some ([.one (.i .i64 z)],[]))=true:=fun _=>rfl
  have i16:∀z,asI (resC (some ([.one (.i .i64 z)],[])) 0 0)=z:=fun _=>rfl
  have n16:decide (k+1+1+1+1+1+1+1+1+1+1+1+2 * (x12.length:Int)+1+1 * (x14.length:Int)+1 * (x15.length:Int)+1 * (x16.length:Int)+kc x17 < 0)=false:=decide_eq_false (Int.not_lt.2 gc16)
  have m25:=kqc x26 (Nat.le_trans lx26 (by decide)) (k+1+1+1+1+1+1+1+1+1+1+1+2 * (x12.length:Int)+1+1 * (x14.length:Int)+1 * (x15.length:Int)+1 * (x16.length:Int)+kc x17+1+1+1+1+1+1+1+1) ga25 gb25
  have o25:∀z,okR zr46 zo46 (some ([.one (.i .i64 z)],[]))=true:=fun _=>rfl
  have i25:∀z,asI (resC (some ([.one (.i .i64 z)],[])) 0 0)=z:=fun _=>rfl
  have n25:decide (k+1+1+1+1+1+1+1+1+1+1+1+2 * (x12.length:Int)+1+1 * (x14.length:Int)+1 * (x15.length:Int)+1 * (x16.length:Int)+kc x17+1+1+1+1+1+1+1+1+2 * (x26.length:Int) < 0)=false:=decide_eq_false (Int.not_lt.2 gc25)
  have m26:=kth x27 (Nat.le_trans lx27 (by decide)) (k+1+1+1+1+1+1+1+1+1+1+1+2 * (x12.length:Int)+1+1 * (x14.length:Int)+1 * (x15.length:Int)+1 * (x16.length:Int)+kc x17+1+1+1+1+1+1+1+1+2 * (x26.length:Int)) ga26 gb26
  have o26:∀z,okR zr77 zo77 (some ([.one (.i .i64 z)],[]))=true:=fun _=>rfl
  have i26:∀z,asI (resC (some ([.one (.i .i64 z)],[])) 0 0)=z:=fun _=>rfl
  have n26:decide (k+1+1+1+1+1+1+1+1+1+1+1+2 * (x12.length:Int)+1+1 * (x14.length:Int)+1 * (x15.length:Int)+1 * (x16.length:Int)+kc x17+1+1+1+1+1+1+1+1+2 * (x26.length:Int)+5 * (x27.length:Int) < 0)=false:=decide_eq_false (Int.not_lt.2 gc26)
  have m27:=kyg x28 (Nat.le_trans lx28 (by decide)) (k+1+1+1+1+1+1+1+1+1+1+1+2 * (x12.length:Int)+1+1 * (x14.length:Int)+1 * (x15.length:Int)+1 * (x16.length:Int)+kc x17+1+1+1+1+1+1+1+1+2 * (x26.length:Int)+5 * (x27.length:Int)) ga27 gb27
  have o27:∀z,okR zr33 zo33 (some ([.one (.i .i64 z)],[]))=true:=fun _=>rfl
  have i27:∀z,asI (resC (some ([.one (.i .i64 z)],[])) 0 0)=z:=fun _=>rfl
  have n27:decide (k+1+1+1+1+1+1+1+1+1+1+1+2 * (x12.length:Int)+1+1 * (x14.length:Int)+1 * (x15.length:Int)+1 * (x16.length:Int)+kc x17+1+1+1+1+1+1+1+1+2 * (x26.length:Int)+5 * (x27.length:Int)+9 * (x28.length:Int) < 0)=false:=decide_eq_false (Int.not_lt.2 gc27)
  have this:=fun (z0:SV) (z1:SV) (z2:SV) (z3:SV) (z4:SV) (z5:SV) (z6:SV) (z7:SV) (z8:SV) (z9:SV) (z10:SV) (z11:SV) (z12:SV) (z13:SV) (z14:SV) (z15:SV) (z16:SV) (z17:SV) (z18:SV) (z19:SV) (z20:SV) (z21:SV) (z22:SV) (z23:SV) (z24:SV) (z25:SV) (z26:SV) (z27:SV) (z28:SV) (z29:SV) (z30:SV)=>ih (a++[kh k [.i .i64 x1,.i .i64 x2,.b x3,.i .i64 x4,.i .i64 x5,.i .i64 x6,.i .i64 x7,.i .i64 x8,.i .i64 x9,.i .i64 x10,.i .i64 x11,.l x12,.i .i64 x13,.l x14,.l x15,.l x16,.l x17,.i .i64 x18,.i .i64 x19,.s x20,.i .i64 x21,.i .i64 x22,.i .i64 x23,.i .i64 x24,.s x25,.l x26,.l x27,.l x28,.i .i64 x29,.i .i64 x30]]) m (k+1+1+1+1+1+1+1+1+1+1+1+2 * (x12.length:Int)+1+1 * (x14.length:Int)+1 * (x15.length:Int)+1 * (x16.length:Int)+kc x17+1+1+1+1+1+1+1+1+2 * (x26.length:Int)+5 * (x27.length:Int)+9 * (x28.length:Int)+1+1) z0 z1 z2 z3 z4 z5 z6 z7 z8 z9 z10 z11 z12 z13 z14 z15 z16 z17 z18 z19 z20 z21 z22 z23 z24 z25 z26 z27 z28 z29 z30 _ _ hb hb2 rfl rfl hmb (hlb _) gf hk
  have e3:(a++[kh k [.i .i64 x1,.i .i64 x2,.b x3,.i .i64 x4,.i .i64 x5,.i .i64 x6,.i .i64 x7,.i .i64 x8,.i .i64 x9,.i .i64 x10,.i .i64 x11,.l x12,.i .i64 x13,.l x14,.l x15,.l x16,.l x17,.i .i64 x18,.i .i64 x19,.s x20,.i .i64 x21,.i .i64 x22,.i .i64 x23,.i .i64 x24,.s x25,.l x26,.l x27,.l x28,.i .i64 x29,.i .i64 x30]]).length=a.length+1:=by simp
  simp only [e3,List.append_assoc] at this
  have e5:a++kab k ([.i .i64 x1,.i .i64 x2,.b x3,.i .i64 x4,.i .i64 x5,.i .i64 x6,.i .i64 x7,.i .i64 x8,.i .i64 x9,.i .i64 x10,.i .i64 x11,.l x12,.i .i64 x13,.l x14,.l x15,.l x16,.l x17,.i .i64 x18,.i .i64 x19,.s x20,.i .i64 x21,.i .i64 x22,.i .i64 x23,.i .i64 x24,.s x25,.l x26,.l x27,.l x28,.i .i64 x29,.i .i64 x30] :: b)=a++kh k [.i .i64 x1,.i .i64 x2,.b x3,.i .i64 x4,.i .i64 x5,.i .i64 x6,.i .i64 x7,.i .i64 x8,.i .i64 x9,.i .i64 x10,.i .i64 x11,.l x12,.i .i64 x13,.l x14,.l x15,.l x16,.l x17,.i .i64 x18,.i .i64 x19,.s x20,.i .i64 x21,.i .i64 x22,.i .i64 x23,.i .i64 x24,.s x25,.l x26,.l x27,.l x28,.i .i64 x29,.i .i64 x30] :: kab (k+1+1+1+1+1+1+1+1+1+1+1+2 * (x12.length:Int)+1+1 * (x14.length:Int)+1 * (x15.length:Int)+1 * (x16.length:Int)+kc x17+1+1+1+1+1+1+1+1+2 * (x26.length:Int)+5 * (x27.length:Int)+9 * (x28.length:Int)+1+1) b:=by rw [kab,e6]
  rw [e5]
  have ez:isRow z36 (kh k [.i .i64 x1,.i .i64 x2,.b x3,.i .i64 x4,.i .i64 x5,.i .i64 x6,.i .i64 x7,.i .i64 x8,.i .i64 x9,.i .i64 x10,.i .i64 x11,.l x12,.i .i64 x13,.l x14,.l x15,.l x16,.l x17,.i .i64 x18,.i .i64 x19,.s x20,.i .i64 x21,.i .i64 x22,.i .i64 x23,.i .i64 x24,.s x25,.l x26,.l x27,.l x28,.i .i64 x29,.i .i64 x30])=true:=rfl
  have d0:asI (nthD (kh k [.i .i64 x1,.i .i64 x2,.b x3,.i .i64 x4,.i .i64 x5,.i .i64 x6,.i .i64 x7,.i .i64 x8,.i .i64 x9,.i .i64 x10,.i .i64 x11,.l x12,.i .i64 x13,.l x14,.l x15,.l x16,.l x17,.i .i64 x18,.i .i64 x19,.s x20,.i .i64 x21,.i .i64 x22,.i .i64 x23,.i .i64 x24,.s x25,.l x26,.l x27,.l x28,.i .i64 x29,.i .i64 x30]) 0)=(k):=rfl
  have d1:asI (nthD (kh k [.i .i64 x1,.i .i64 x2,.b x3,.i .i64 x4,.i .i64 x5,.i .i64 x6,.i .i64 x7,.i .i64 x8,.i .i64 x9,.i .i64 x10,.i .i64 x11,.l x12,.i .i64 x13,.l x14,.l x15,.l x16,.l x17,.i .i64 x18,.i .i64 x19,.s x20,.i .i64 x21,.i .i64 x22,.i .i64 x23,.i .i64 x24,.s x25,.l x26,.l x27,.l x28,.i .i64 x29,.i .i64 x30]) 1)=(k+1):=rfl
  have d2:asB (nthD (kh k [.i .i64 x1,.i .i64 x2,.b x3,.i .i64 x4,.i .i64 x5,.i .i64 x6,.i .i64 x7,.i .i64 x8,.i .i64 x9,.i .i64 x10,.i .i64 x11,.l x12,.i .i64 x13,.l x14,.l x15,.l x16,.l x17,.i .i64 x18,.i .i64 x19,.s x20,.i .i64 x21,.i .i64 x22,.i .i64 x23,.i .i64 x24,.s x25,.l x26,.l x27,.l x28,.i .i64 x29,.i .i64 x30]) 2)=(((k+1+1).tmod (3:Int))==(0:Int)):=rfl
  have d3:asI (nthD (kh k [.i .i64 x1,.i .i64 x2,.b x3,.i .i64 x4,.i .i64 x5,.i .i64 x6,.i .i64 x7,.i .i64 x8,.i .i64 x9,.i .i64 x10,.i .i64 x11,.l x12,.i .i64 x13,.l x14,.l x15,.l x16,.l x17,.i .i64 x18,.i .i64 x19,.s x20,.i .i64 x21,.i .i64 x22,.i .i64 x23,.i .i64 x24,.s x25,.l x26,.l x27,.l x28,.i .i64 x29,.i .i64 x30]) 3)=(k+1+1+1):=rfl
  have d4:asI (nthD (kh k [.i .i64 x1,.i .i64 x2,.b x3,.i .i64 x4,.i .i64 x5,.i .i64 x6,.i .i64 x7,.i .i64 x8,.i .i64 x9,.i .i64 x10,.i .i64 x11,.l x12,.i .i64 x13,.l x14,.l x15,.l x16,.l x17,.i .i64 x18,.i .i64 x19,.s x20,.i .i64 x21,.i .i64 x22,.i .i64 x23,.i .i64 x24,.s x25,.l x26,.l x27,.l x28,.i .i64 x29,.i .i64 x30]) 4)=(k+1+1+1+1):=rfl
  have d5:asI (nthD (kh k [.i .i64 x1,.i .i64 x2,.b x3,.i .i64 x4,.i .i64 x5,.i .i64 x6,.i .i64 x7,.i .i64 x8,.i .i64 x9,.i .i64 x10,.i .i64 x11,.l x12,.i .i64 x13,.l x14,.l x15,.l x16,.l x17,.i .i64 x18,.i .i64 x19,.s x20,.i .i64 x21,.i .i64 x22,.i .i64 x23,.i .i64 x24,.s x25,.l x26,.l x27,.l x28,.i .i64 x29,.i .i64 x30]) 5)=(k+1+1+1+1+1):=rfl
  have d6:asI (nthD (kh k [.i .i64 x1,.i .i64 x2,.b x3,.i .i64 x4,.i .i64 x5,.i .i64 x6,.i .i64 x7,.i .i64 x8,.i .i64 x9,.i .i64 x10,.i .i64 x11,.l x12,.i .i64 x13,.l x14,.l x15,.l x16,.l x17,.i .i64 x18,.i .i64 x19,.s x20,.i .i64 x21,.i .i64 x22,.i .i64 x23,.i .i64 x24,.s x25,.l x26,.l x27,.l x28,.i .i64 x29,.i .i64 x30]) 6)=(k+1+1+1+1+1+1):=rfl
  have d7:asI (nthD (kh k [.i .i64 x1,.i .i64 x2,.b x3,.i .i64 x4,.i .i64 x5,.i .i64 x6,.i .i64 x7,.i .i64 x8,.i .i64 x9,.i .i64 x10,.i .i64 x11,.l x12,.i .i64 x13,.l x14,.l x15,.l x16,.l x17,.i .i64 x18,.i .i64 x19,.s x20,.i .i64 x21,.i .i64 x22,.i .i64 x23,.i .i64 x24,.s x25,.l x26,.l x27,.l x28,.i .i64 x29,.i .i64 x30]) 7)=(k+1+1+1+1+1+1+1):=rfl
  have d8:asI (nthD (kh k [.i .i64 x1,.i .i64 x2,.b x3,.i .i64 x4,.i .i64 x5,.i .i64 x6,.i .i64 x7,.i .i64 x8,.i .i64 x9,.i .i64 x10,.i .i64 x11,.l x12,.i .i64 x13,.l x14,.l x15,.l x16,.l x17,.i .i64 x18,.i .i64 x19,.s x20,.i .i64 x21,.i .i64 x22,.i .i64 x23,.i .i64 x24,.s x25,.l x26,.l x27,.l x28,.i .i64 x29,.i .i64 x30]) 8)=(k+1+1+1+1+1+1+1+1):=rfl
  have d9:asI (nthD (kh k [.i .i64 x1,.i .i64 x2,.b x3,.i .i64 x4,.i .i64 x5,.i .i64 x6,.i .i64 x7,.i .i64 x8,.i .i64 x9,.i .i64 x10,.i .i64 x11,.l x12,.i .i64 x13,.l x14,.l x15,.l x16,.l x17,.i .i64 x18,.i .i64 x19,.s x20,.i .i64 x21,.i .i64 x22,.i .i64 x23,.i .i64 x24,.s x25,.l x26,.l x27,.l x28,.i .i64 x29,.i .i64 x30]) 9)=(k+1+1+1+1+1+1+1+1+1):=rfl
  have d10:asI (nthD (kh k [.i .i64 x1,.i .i64 x2,.b x3,.i .i64 x4,.i .i64 x5,.i .i64 x6,.i .i64 x7,.i .i64 x8,.i .i64 x9,.i .i64 x10,.i .i64 x11,.l x12,.i .i64 x13,.l x14,.l x15,.l x16,.l x17,.i .i64 x18,.i .i64 x19,.s x20,.i .i64 x21,.i .i64 x22,.i .i64 x23,.i .i64 x24,.s x25,.l x26,.l x27,.l x28,.i .i64 x29,.i .i64 x30]) 10)=(k+1+1+1+1+1+1+1+1+1+1):=rfl
  have d11:asL (nthD (kh k [.i .i64 x1,.i .i64 x2,.b x3,.i .i64 x4,.i .i64 x5,.i .i64 x6,.i .i64 x7,.i .i64 x8,.i .i64 x9,.i .i64 x10,.i .i64 x11,.l x12,.i .i64 x13,.l x14,.l x15,.l x16,.l x17,.i .i64 x18,.i .i64 x19,.s x20,.i .i64 x21,.i .i64 x22,.i .i64 x23,.i .i64 x24,.s x25,.l x26,.l x27,.l x28,.i .i64 x29,.i .i64 x30]) 11)=(km (k+1+1+1+1+1+1+1+1+1+1+1) x12):=rfl
  have d12:asI (nthD (kh k [.i .i64 x1,.i .i64 x2,.b x3,.i .i64 x4,.i .i64 x5,.i .i64 x6,.i .i64 x7,.i .i64 x8,.i .i64 x9,.i .i64 x10,.i .i64 x11,.l x12,.i .i64 x13,.l x14,.l x15,.l x16,.l x17,.i .i64 x18,.i .i64 x19,.s x20,.i .i64 x21,.i .i64 x22,.i .i64 x23,.i .i64 x24,.s x25,.l x26,.l x27,.l x28,.i .i64 x29,.i .i64 x30]) 12)=(k+1+1+1+1+1+1+1+1+1+1+1+2 * (x12.length:Int)):=rfl
  have d13:asL (nthD (kh k [.i .i64 x1,.i .i64 x2,.b x3,.i .i64 x4,.i .i64 x5,.i .i64 x6,.i .i64 x7,.i .i64 x8,.i .i64 x9,.i .i64 x10,.i .i64 x11,.l x12,.i .i64 x13,.l x14,.l x15,.l x16,.l x17,.i .i64 x18,.i .i64 x19,.s x20,.i .i64 x21,.i .i64 x22,.i .i64 x23,.i .i64 x24,.s x25,.l x26,.l x27,.l x28,.i .i64 x29,.i .i64 x30]) 13)=(kv (k+1+1+1+1+1+1+1+1+1+1+1+2 * (x12.length:Int)+1) x14):=rfl
  have d14:asL (nthD (kh k [.i .i64 x1,.i .i64 x2,.b x3,.i .i64 x4,.i .i64 x5,.i .i64 x6,.i .i64 x7,.i .i64 x8,.i .i64 x9,.i .i64 x10,.i .i64 x11,.l x12,.i .i64 x13,.l x14,.l x15,.l x16,.l x17,.i .i64 x18,.i .i64 x19,.s x20,.i .i64 x21,.i .i64 x22,.i .i64 x23,.i .i64 x24,.s x25,.l x26,.l x27,.l x28,.i .i64 x29,.i .i64 x30]) 14)=(kv (k+1+1+1+1+1+1+1+1+1+1+1+2 * (x12.length:Int)+1+1 * (x14.length:Int)) x15):=rfl
  have d15:asL (nthD (kh k [.i .i64 x1,.i .i64 x2,.b x3,.i .i64 x4,.i .i64 x5,.i .i64 x6,.i .i64 x7,.i .i64 x8,.i .i64 x9,.i .i64 x10,.i .i64 x11,.l x12,.i .i64 x13,.l x14,.l x15,.l x16,.l x17,.i .i64 x18,.i .i64 x19,.s x20,.i .i64 x21,.i .i64 x22,.i .i64 x23,.i .i64 x24,.s x25,.l x26,.l x27,.l x28,.i .i64 x29,.i .i64 x30]) 15)=(kv (k+1+1+1+1+1+1+1+1+1+1+1+2 * (x12.length:Int)+1+1 * (x14.length:Int)+1 * (x15.length:Int)) x16):=rfl
  have d16:asL (nthD (kh k [.i .i64 x1,.i .i64 x2,.b x3,.i .i64 x4,.i .i64 x5,.i .i64 x6,.i .i64 x7,.i .i64 x8,.i .i64 x9,.i .i64 x10,.i .i64 x11,.l x12,.i .i64 x13,.l x14,.l x15,.l x16,.l x17,.i .i64 x18,.i .i64 x19,.s x20,.i .i64 x21,.i .i64 x22,.i .i64 x23,.i .i64 x24,.s x25,.l x26,.l x27,.l x28,.i .i64 x29,.i .i64 x30]) 16)=(kq (k+1+1+1+1+1+1+1+1+1+1+1+2 * (x12.length:Int)+1+1 * (x14.length:Int)+1 * (x15.length:Int)+1 * (x16.length:Int)) x17):=rfl
  have d17:asI (nthD (kh k [.i .i64 x1,.i .i64 x2,.b x3,.i .i64 x4,.i .i64 x5,.i .i64 x6,.i .i64 x7,.i .i64 x8,.i .i64 x9,.i .i64 x10,.i .i64 x11,.l x12,.i .i64 x13,.l x14,.l x15,.l x16,.l x17,.i .i64 x18,.i .i64 x19,.s x20,.i .i64 x21,.i .i64 x22,.i .i64 x23,.i .i64 x24,.s x25,.l x26,.l x27,.l x28,.i .i64 x29,.i .i64 x30]) 17)=(k+1+1+1+1+1+1+1+1+1+1+1+2 * (x12.length:Int)+1+1 * (x14.length:Int)+1 * (x15.length:Int)+1 * (x16.length:Int)+kc x17):=rfl
  have d18:asI (nthD (kh k [.i .i64 x1,.i .i64 x2,.b x3,.i .i64 x4,.i .i64 x5,.i .i64 x6,.i .i64 x7,.i .i64 x8,.i .i64 x9,.i .i64 x10,.i .i64 x11,.l x12,.i .i64 x13,.l x14,.l x15,.l x16,.l x17,.i .i64 x18,.i .i64 x19,.s x20,.i .i64 x21,.i .i64 x22,.i .i64 x23,.i .i64 x24,.s x25,.l x26,.l x27,.l x28,.i .i64 x29,.i .i64 x30]) 18)=(k+1+1+1+1+1+1+1+1+1+1+1+2 * (x12.length:Int)+1+1 * (x14.length:Int)+1 * (x15.length:Int)+1 * (x16.length:Int)+kc x17+1):=rfl
  have d19:asS (nthD (kh k [.i .i64 x1,.i .i64 x2,.b x3,.i .i64 x4,.i .i64 x5,.i .i64 x6,.i .i64 x7,.i .i64 x8,.i .i64 x9,.i .i64 x10,.i .i64 x11,.l x12,.i .i64 x13,.l x14,.l x15,.l x16,.l x17,.i .i64 x18,.i .i64 x19,.s x20,.i .i64 x21,.i .i64 x22,.i .i64 x23,.i .i64 x24,.s x25,.l x26,.l x27,.l x28,.i .i64 x29,.i .i64 x30]) 19)=(mkT (k+1+1+1+1+1+1+1+1+1+1+1+2 * (x12.length:Int)+1+1 * (x14.length:Int)+1 * (x15.length:Int)+1 * (x16.length:Int)+kc x17+1+1)):=rfl
  have d20:asI (nthD (kh k [.i .i64 x1,.i .i64 x2,.b x3,.i .i64 x4,.i .i64 x5,.i .i64 x6,.i .i64 x7,.i .i64 x8,.i .i64 x9,.i .i64 x10,.i .i64 x11,.l x12,.i .i64 x13,.l x14,.l x15,.l x16,.l x17,.i .i64 x18,.i .i64 x19,.s x20,.i .i64 x21,.i .i64 x22,.i .i64 x23,.i .i64 x24,.s x25,.l x26,.l x27,.l x28,.i .i64 x29,.i .i64 x30]) 20)=(k+1+1+1+1+1+1+1+1+1+1+1+2 * (x12.length:Int)+1+1 * (x14.length:Int)+1 * (x15.length:Int)+1 * (x16.length:Int)+kc x17+1+1+1):=rfl
  have d21:asI (nthD (kh k [.i .i64 x1,.i .i64 x2,.b x3,.i .i64 x4,.i .i64 x5,.i .i64 x6,.i .i64 x7,.i .i64 x8,.i .i64 x9,.i .i64 x10,.i .i64 x11,.l x12,.i .i64 x13,.l x14,.l x15,.l x16,.l x17,.i .i64 x18,.i .i64 x19,.s x20,.i .i64 x21,.i .i64 x22,.i .i64 x23,.i .i64 x24,.s x25,.l x26,.l x27,.l x28,.i .i64 x29,.i .i64 x30]) 21)=(k+1+1+1+1+1+1+1+1+1+1+1+2 * (x12.length:Int)+1+1 * (x14.length:Int)+1 * (x15.length:Int)+1 * (x16.length:Int)+kc x17+1+1+1+1):=rfl
  have d22:asI (nthD (kh k [.i .i64 x1,.i .i64 x2,.b x3,.i .i64 x4,.i .i64 x5,.i .i64 x6,.i .i64 x7,.i .i64 x8,.i .i64 x9,.i .i64 x10,.i .i64 x11,.l x12,.i .i64 x13,.l x14,.l x15,.l x16,.l x17,.i .i64 x18,.i .i64 x19,.s x20,.i .i64 x21,.i .i64 x22,.i .i64 x23,.i .i64 x24,.s x25,.l x26,.l x27,.l x28,.i .i64 x29,.i .i64 x30]) 22)=(k+1+1+1+1+1+1+1+1+1+1+1+2 * (x12.length:Int)+1+1 * (x14.length:Int)+1 * (x15.length:Int)+1 * (x16.length:Int)+kc x17+1+1+1+1+1):=rfl
  have d23:asI (nthD (kh k [.i .i64 x1,.i .i64 x2,.b x3,.i .i64 x4,.i .i64 x5,.i .i64 x6,.i .i64 x7,.i .i64 x8,.i .i64 x9,.i .i64 x10,.i .i64 x11,.l x12,.i .i64 x13,.l x14,.l x15,.l x16,.l x17,.i .i64 x18,.i .i64 x19,.s x20,.i .i64 x21,.i .i64 x22,.i .i64 x23,.i .i64 x24,.s x25,.l x26,.l x27,.l x28,.i .i64 x29,.i .i64 x30]) 23)=(k+1+1+1+1+1+1+1+1+1+1+1+2 * (x12.length:Int)+1+1 * (x14.length:Int)+1 * (x15.length:Int)+1 * (x16.length:Int)+kc x17+1+1+1+1+1+1):=rfl
  have d24:asS (nthD (kh k [.i .i64 x1,.i .i64 x2,.b x3,.i .i64 x4,.i .i64 x5,.i .i64 x6,.i .i64 x7,.i .i64 x8,.i .i64 x9,.i .i64 x10,.i .i64 x11,.l x12,.i .i64 x13,.l x14,.l x15,.l x16,.l x17,.i .i64 x18,.i .i64 x19,.s x20,.i .i64 x21,.i .i64 x22,.i .i64 x23,.i .i64 x24,.s x25,.l x26,.l x27,.l x28,.i .i64 x29,.i .i64 x30]) 24)=(mkT (k+1+1+1+1+1+1+1+1+1+1+1+2 * (x12.length:Int)+1+1 * (x14.length:Int)+1 * (x15.length:Int)+1 * (x16.length:Int)+kc x17+1+1+1+1+1+1+1)):=rfl
  have d25:asL (nthD (kh k [.i .i64 x1,.i .i64 x2,.b x3,.i .i64 x4,.i .i64 x5,.i .i64 x6,.i .i64 x7,.i .i64 x8,.i .i64 x9,.i .i64 x10,.i .i64 x11,.l x12,.i .i64 x13,.l x14,.l x15,.l x16,.l x17,.i .i64 x18,.i .i64 x19,.s x20,.i .i64 x21,.i .i64 x22,.i .i64 x23,.i .i64 x24,.s x25,.l x26,.l x27,.l x28,.i .i64 x29,.i .i64 x30]) 25)=(km (k+1+1+1+1+1+1+1+1+1+1+1+2 * (x12.length:Int)+1+1 * (x14.length:Int)+1 * (x15.length:Int)+1 * (x16.length:Int)+kc x17+1+1+1+1+1+1+1+1) x26):=rfl
  have d26:asL (nthD (kh k [.i .i64 x1,.i .i64 x2,.b x3,.i .i64 x4,.i .i64 x5,.i .i64 x6,.i .i64 x7,.i .i64 x8,.i .i64 x9,.i .i64 x10,.i .i64 x11,.l x12,.i .i64 x13,.l x14,.l x15,.l x16,.l x17,.i .i64 x18,.i .i64 x19,.s x20,.i .i64 x21,.i .i64 x22,.i .i64 x23,.i .i64 x24,.s x25,.l x26,.l x27,.l x28,.i .i64 x29,.i .i64 x30]) 26)=(kkb (k+1+1+1+1+1+1+1+1+1+1+1+2 * (x12.length:Int)+1+1 * (x14.length:Int)+1 * (x15.length:Int)+1 * (x16.length:Int)+kc x17+1+1+1+1+1+1+1+1+2 * (x26.length:Int)) x27):=rfl
  have d27:asL (nthD (kh k [.i .i64 x1,.i .i64 x2,.b x3,.i .i64 x4,.i .i64 x5,.i .i64 x6,.i .i64 x7,.i .i64 x8,.i .i64 x9,.i .i64 x10,.i .i64 x11,.l x12,.i .i64 x13,.l x14,.l x15,.l x16,.l x17,.i .i64 x18,.i .i64 x19,.s x20,.i .i64 x21,.i .i64 x22,.i .i64 x23,.i .i64 x24,.s x25,.l x26,.l x27,.l x28,.i .i64 x29,.i .i64 x30]) 27)=(keb (k+1+1+1+1+1+1+1+1+1+1+1+2 * (x12.length:Int)+1+1 * (x14.length:Int)+1 * (x15.length:Int)+1 * (x16.length:Int)+kc x17+1+1+1+1+1+1+1+1+2 * (x26.length:Int)+5 * (x27.length:Int)) x28):=rfl
  have d28:asI (nthD (kh k [.i .i64 x1,.i .i64 x2,.b x3,.i .i64 x4,.i .i64 x5,.i .i64 x6,.i .i64 x7,.i .i64 x8,.i .i64 x9,.i .i64 x10,.i .i64 x11,.l x12,.i .i64 x13,.l x14,.l x15,.l x16,.l x17,.i .i64 x18,.i .i64 x19,.s x20,.i .i64 x21,.i .i64 x22,.i .i64 x23,.i .i64 x24,.s x25,.l x26,.l x27,.l x28,.i .i64 x29,.i .i64 x30]) 28)=(k+1+1+1+1+1+1+1+1+1+1+1+2 * (x12.length:Int)+1+1 * (x14.length:Int)+1 * (x15.length:Int)+1 * (x16.length:Int)+kc x17+1+1+1+1+1+1+1+1+2 * (x26.length:Int)+5 * (x27.length:Int)+9 * (x28.length:Int)):=rfl
  have d29:asI (nthD (kh k [.i .i64 x1,.i .i64 x2,.b x3,.i .i64 x4,.i .i64 x5,.i .i64 x6,.i .i64 x7,.i .i64 x8,.i .i64 x9,.i .i64 x10,.i .i64 x11,.l x12,.i .i64 x13,.l x14,.l x15,.l x16,.l x17,.i .i64 x18,.i .i64 x19,.s x20,.i .i64 x21,.i .i64 x22,.i .i64 x23,.i .i64 x24,.s x25,.l x26,.l x27,.l x28,.i .i64 x29,.i .i64 x30]) 29)=(k+1+1+1+1+1+1+1+1+1+1+1+2 * (x12.length:Int)+1+1 * (x14.length:Int)+1 * (x15.length:Int)+1 * (x16.length:Int)+kc x17+1+1+1+1+1+1+1+1+2 * (x26.length:Int)+5 * (x27.length:Int)+9 * (x28.length:Int)+1):=rfl
  simp only [la43o0,e1,e0,if_true,itn,eg,ez,d0,d1,d2,d3,d4,d5,d6,d7,d8,d9,d10,d11,d12,d13,d14,d15,d16,d17,d18,d19,d20,d21,d22,d23,d24,d25,d26,d27,d28,d29,u0,u1,u2,u3,u4,u5,u6,u7,u8,u9,u10,u12,u17,u18,u19,u20,u21,u22,u23,u24,u28,u29,t19,ta19,t24,ta24,kx,kw,m11,o11,i11,n11,m13,o13,i13,n13,m14,o14,i14,n14,m15,o15,i15,n15,m16,o16,i16,n16,m25,o25,i25,n25,m26,o26,i26,n26,m27,o27,i27,n27,bne_self_eq_false,beq_self_eq_true,bnt,bft,if_false,bat,ka,hw]
  rw [e7]
  exact this _ _ _ _ _ _ _ _ _ _ _ _ _ _ _ _ _ _ _ _ _ _ _ _ _ _ _ _ _ _ _
theorem kgh (l:Rw) (h:∀r∈l,typL ky r) (hs:∀r∈l,szdL ky r) (hl:l.length≤4000000) (k:Int) (h0:0≤k) (hk:k+kf l≤4000000000000000000):t43 (kab k l) k=some ([.one (.i .i64 (k+kf l))],[]):=by
 unfold t43 ta43
 exact heldNodeS_loop _ _ _ _ _ _ _ _ _ _ _ _ _ _ _ _ _ _ _ _ _ _ _ _ _ _ _ _ _ _ _ _ (fun _ _ _ _ _ _ _ _ _ _ _ _ _ _ _ _ _ _ _ _ _ _ _ _ _ _ _ _ _ _ _ _ _=>rfl) l [] KK k _ _ _ _ _ _ _ _ _ _ _ _ _ _ _ _ _ _ _ _ _ _ _ _ _ _ _ _ _ _ _ _ _ h hs rfl rfl (by rw [kl];omega) (by simpa using hl) h0 hk
noncomputable def kjb (k:Int) (r:List D):List D:=[.i .i64 (k),.i .i64 (k+1),.i .i64 (k+1+1),.i .i64 (k+1+1+1),.i .i64 (k+1+1+1+1),.i .i64 (k+1+1+1+1+1),.i .i64 (k+1+1+1+1+1+1),.b (((k+1+1+1+1+1+1+1).tmod (3:Int))==(0:Int)),.l (km (k+1+1+1+1+1+1+1+1) (asL (nthD r 8))),.s (mkT (k+1+1+1+1+1+1+1+1+2 * (((asL (nthD r 8))).length:Int)))]
def knc (r:List D):Int:=9+2 * (((asL (nthD r 8))).length:Int)
noncomputable def khb:Int→Rw→Rw
 | _,[]=>[]
 | k,r :: b=>kjb k r :: khb (k+knc r) b
def kj:Rw→Int
 | []=>0
 | r :: b=>knc r+kj b
theorem koc:∀(b:Rw),0≤kj b
 | []=>by simp [kj]
 | r :: b=>by
  have h:=koc b
  simp only [kj,knc]
  omega
theorem kzc:∀(b:Rw),(∀r∈b,typL klb r)→(∀r∈b,szdL klb r)→kj b≤2097161 * (b.length:Int)
 | [],_,_=>by simp [kj]
 | r :: b,h,hs=>by
  have ih:=kzc b (fun r hr=>h r (List.mem_cons_of_mem _ hr)) (fun r hr=>hs r (List.mem_cons_of_mem _ hr))
  have hz:=hs r (List.mem_cons_self ..)
  obtain ⟨x1,x2,x3,x4,x5,x6,x7,x8,x9,x10,rfl,wx9,tx9,wx10⟩:=kud (h r (List.mem_cons_self ..))
  have sx9:x9.length≤1048576∧∀r∈x9,szdL ki r:=hz.2.2.2.2.2.2.2.2.1
  have lx9:=sx9.1
  simp only [kj,knc,nthD,asL,List.length_cons]
  omega
theorem kjl (a b:Rw) (i:Nat) (h:i=a.length) (c1 c2 c3 c4 c5 c6 c7 c8 c9 c10 d:D):stR (a++[c1,c2,c3,c4,c5,c6,c7,c8,c9,c10] :: b) i 0 [d]=a++[d,c2,c3,c4,c5,c6,c7,c8,c9,c10] :: b:=kd a b _ _ i 0 h
theorem kwl (a b:Rw) (i:Nat) (h:i=a.length) (c1 c2 c3 c4 c5 c6 c7 c8 c9 c10 d:D):stR (a++[c1,c2,c3,c4,c5,c6,c7,c8,c9,c10] :: b) i 1 [d]=a++[c1,d,c3,c4,c5,c6,c7,c8,c9,c10] :: b:=kd a b _ _ i 1 h
theorem kfm (a b:Rw) (i:Nat) (h:i=a.length) (c1 c2 c3 c4 c5 c6 c7 c8 c9 c10 d:D):stR (a++[c1,c2,c3,c4,c5,c6,c7,c8,c9,c10] :: b) i 2 [d]=a++[c1,c2,d,c4,c5,c6,c7,c8,c9,c10] :: b:=kd a b _ _ i 2 h
theorem kpl (a b:Rw) (i:Nat) (h:i=a.length) (c1 c2 c3 c4 c5 c6 c7 c8 c9 c10 d:D):stR (a++[c1,c2,c3,c4,c5,c6,c7,c8,c9,c10] :: b) i 3 [d]=a++[c1,c2,c3,d,c5,c6,c7,c8,c9,c10] :: b:=kd a b _ _ i 3 h
theorem kem (a b:Rw) (i:Nat) (h:i=a.length) (c1 c2 c3 c4 c5 c6 c7 c8 c9 c10 d:D):stR (a++[c1,c2,c3,c4,c5,c6,c7,c8,c9,c10] :: b) i 4 [d]=a++[c1,c2,c3,c4,d,c6,c7,c8,c9,c10] :: b:=kd a b _ _ i 4 h
theorem kcm (a b:Rw) (i:Nat) (h:i=a.length) (c1 c2 c3 c4 c5 c6 c7 c8 c9 c10 d:D):stR (a++[c1,c2,c3,c4,c5,c6,c7,c8,c9,c10] :: b) i 5 [d]=a++[c1,c2,c3,c4,c5,d,c7,c8,c9,c10] :: b:=kd a b _ _ i 5 h
theorem knl (a b:Rw) (i:Nat) (h:i=a.length) (c1 c2 c3 c4 c5 c6 c7 c8 c9 c10 d:D):stR (a++[c1,c2,c3,c4,c5,c6,c7,c8,c9,c10] :: b) i 6 [d]=a++[c1,c2,c3,c4,c5,c6,d,c8,c9,c10] :: b:=kd a b _ _ i 6 h
theorem kql (a b:Rw) (i:Nat) (h:i=a.length) (c1 c2 c3 c4 c5 c6 c7 c8 c9 c10 d:D):stR (a++[c1,c2,c3,c4,c5,c6,c7,c8,c9,c10] :: b) i 7 [d]=a++[c1,c2,c3,c4,c5,c6,c7,d,c9,c10] :: b:=kd a b _ _ i 7 h
theorem ksl (a b:Rw) (i:Nat) (h:i=a.length) (c1 c2 c3 c4 c5 c6 c7 c8 c9 c10 d:D):stR (a++[c1,c2,c3,c4,c5,c6,c7,c8,c9,c10] :: b) i 8 [d]=a++[c1,c2,c3,c4,c5,c6,c7,c8,d,c10] :: b:=kd a b _ _ i 8 h
theorem kbm (a b:Rw) (i:Nat) (h:i=a.length) (c1 c2 c3 c4 c5 c6 c7 c8 c9 c10 d:D):stR (a++[c1,c2,c3,c4,c5,c6,c7,c8,c9,c10] :: b) i 9 [d]=a++[c1,c2,c3,c4,c5,c6,c7,c8,c9,d] :: b:=kd a b _ _ i 9 h
theorem kzf (n8:Int) (q:Int→Int→Bool→Rw→Rs) (hq:∀a b c d,q a b c d=some ([.one (.i .i64 a)],[[.l d]])):∀(b a:Rw) (m:Nat) (k:Int) (v0:SV),(∀r∈b,typL klb r)→(∀r∈b,szdL klb r)→b.length < m→a.length+b.length≤4000000→0≤k→k+kj b≤4000000000000000000 →
  la40o0 t42 t71 n8 q m k (a.length:Int) v0 (a++b)=some ([.one (.i .i64 (k+kj b))],[[.l (a++khb k b)]]):=by
 intro b
 induction b with
 | nil =>
  intro a m k v0 h hs hm hl h0 hk
  obtain ⟨m,rfl⟩:∃m',m=m' + 1:=⟨m - 1,by omega⟩
  have e:decide ((a.length:Int) < ((a++([]:Rw)).length:Int))=false:=by simp
  have e2:k+kj []=k:=by simp [kj]
  simp only [la40o0,e,bft,if_false,hq,e2,khb]
 | cons r b ih =>
  intro a m k v0 h hs hm hl h0 hk
  obtain ⟨m,rfl⟩:∃m',m=m' + 1:=⟨m - 1,by omega⟩
  simp only [List.length_cons] at hm hl
  have hz:=hs r (List.mem_cons_self ..)
  obtain ⟨x1,x2,x3,x4,x5,x6,x7,x8,x9,x10,rfl,wx9,tx9,wx10⟩:=kud (h r (List.mem_cons_self ..))
  have hb:∀r∈b,typL klb r:=fun r hr=>h r (List.mem_cons_of_mem _ hr)
  have hb2:∀r∈b,szdL klb r:=fun r hr=>hs r (List.mem_cons_of_mem _ hr)
  have sx9:x9.length≤1048576∧∀r∈x9,szdL ki r:=hz.2.2.2.2.2.2.2.2.1
  have lx9:=sx9.1
  have nb:=koc b
  have e6:k+knc [.i .i64 x1,.i .i64 x2,.i .i64 x3,.i .i64 x4,.i .i64 x5,.i .i64 x6,.i .i64 x7,.b x8,.l x9,.s x10]=k+1+1+1+1+1+1+1+1+2 * (x9.length:Int)+1:=by simp only [knc,nthD,asL];omega
  have e7:k+kj ([.i .i64 x1,.i .i64 x2,.i .i64 x3,.i .i64 x4,.i .i64 x5,.i .i64 x6,.i .i64 x7,.b x8,.l x9,.s x10] :: b)=k+1+1+1+1+1+1+1+1+2 * (x9.length:Int)+1+kj b:=by rw [kj,←Int.add_assoc,e6]
  rw [e7] at hk
  have e1:∀r:List D,decide ((a.length:Int) < ((a++r :: b).length:Int))=true:=fun r=>decide_eq_true (by simp;omega)
  have e0:decide (0≤(a.length:Int))=true:=decide_eq_true (by omega)
  have eg:∀(r:List D),(a++r :: b).getD a.length []=r:=fun r=>kmb a b r _ rfl
  have p0:∀r:List D,decide (1≤10∧a.length < (a++r :: b).length)=true:=fun r=>decide_eq_true (by simp)
  have p1:∀r:List D,decide (2≤10∧a.length < (a++r :: b).length)=true:=fun r=>decide_eq_true (by simp)
  have p2:∀r:List D,decide (3≤10∧a.length < (a++r :: b).length)=true:=fun r=>decide_eq_true (by simp)
  have p3:∀r:List D,decide (4≤10∧a.length < (a++r :: b).length)=true:=fun r=>decide_eq_true (by simp)
  have p4:∀r:List D,decide (5≤10∧a.length < (a++r :: b).length)=true:=fun r=>decide_eq_true (by simp)
  have p5:∀r:List D,decide (6≤10∧a.length < (a++r :: b).length)=true:=fun r=>decide_eq_true (by simp)
  have p6:∀r:List D,decide (7≤10∧a.length < (a++r :: b).length)=true:=fun r=>decide_eq_true (by simp)
  have p7:∀r:List D,decide (8≤10∧a.length < (a++r :: b).length)=true:=fun r=>decide_eq_true (by simp)
  have p9:∀r:List D,decide (10≤10∧a.length < (a++r :: b).length)=true:=fun r=>decide_eq_true (by simp)
  have u0:w64 (k+1)=k+1:=kb _ (by omega)
  have u1:w64 (k+1+1)=k+1+1:=kb _ (by omega)
  have u2:w64 (k+1+1+1)=k+1+1+1:=kb _ (by omega)
  have u3:w64 (k+1+1+1+1)=k+1+1+1+1:=kb _ (by omega)
  have u4:w64 (k+1+1+1+1+1)=k+1+1+1+1+1:=kb _ (by omega)
  have u5:w64 (k+1+1+1+1+1+1)=k+1+1+1+1+1+1:=kb _ (by omega)
  have u6:w64 (k+1+1+1+1+1+1+1)=k+1+1+1+1+1+1+1:=kb _ (by omega)
  have u7:w64 (k+1+1+1+1+1+1+1+1)=k+1+1+1+1+1+1+1+1:=kb _ (by omega)
  have u9:w64 (k+1+1+1+1+1+1+1+1+2 * (x9.length:Int)+1)=k+1+1+1+1+1+1+1+1+2 * (x9.length:Int)+1:=kb _ (by omega)
  have t9:=kk (k+1+1+1+1+1+1+1+1+2 * (x9.length:Int)) (by omega)
  have m8:=krc x9 (fun r hr=>kn _ r (tx9 r hr)) (by omega) (k+1+1+1+1+1+1+1+1) (by omega) (by omega)
  have f8:fstSz 2 x9=true:=kic (fun r hr=>kn _ r (tx9 r hr))
  have o8:∀z (y:Rw),okR zr42 zo42 (some ([.one (.i .i64 z)],[[.l y]]))=true:=fun _ _=>rfl
  have v8:∀z (y:Rw),asL (outC (some ([.one (.i .i64 z)],[[.l y]])) 0 0)=y:=fun _ _=>rfl
  have i8:∀z (y:Rw),asI (resC (some ([.one (.i .i64 z)],[[.l y]])) 0 0)=z:=fun _ _=>rfl
  have d8:∀c1 c2 c3 c4 c5 c6 c7 c8 c10:D,asL (nthD [c1,c2,c3,c4,c5,c6,c7,c8,.l x9,c10] 8)=x9:=fun _ _ _ _ _ _ _ _ _=>rfl
  have h8:∀c1 c2 c3 c4 c5 c6 c7 c8 c10:D,decide (9≤([c1,c2,c3,c4,c5,c6,c7,c8,.l x9,c10]:List D).length)=true:=fun _ _ _ _ _ _ _ _ _=>rfl
  have k8:∀c1 c2 c3 c4 c5 c6 c7 c8 c10:D,isF [.l []] 8 [c1,c2,c3,c4,c5,c6,c7,c8,.l x9,c10]=true:=fun _ _ _ _ _ _ _ _ _=>rfl
  have hw:=kg a.length (by omega)
  have:=fun (z0:SV)=>ih (a++[kjb k [.i .i64 x1,.i .i64 x2,.i .i64 x3,.i .i64 x4,.i .i64 x5,.i .i64 x6,.i .i64 x7,.b x8,.l x9,.s x10]]) m (k+1+1+1+1+1+1+1+1+2 * (x9.length:Int)+1) z0 hb hb2 (by omega) (by simp;omega) (by omega) (by omega)
  simp only [la40o0,e1,e0,eg,if_true,itn,p0,p1,p2,p3,p4,p5,p6,p7,p9,u0,u1,u2,u3,u4,u5,u6,u7,u9,t9,kx,kw,kjl a b _ rfl,kwl a b _ rfl,kfm a b _ rfl,kpl a b _ rfl,kem a b _ rfl,kcm a b _ rfl,knl a b _ rfl,kql a b _ rfl,ksl a b _ rfl,kbm a b _ rfl,m8,f8,o8,v8,i8,d8,h8,k8,bat,ka,hw]
  have e3:(a++[kjb k [.i .i64 x1,.i .i64 x2,.i .i64 x3,.i .i64 x4,.i .i64 x5,.i .i64 x6,.i .i64 x7,.b x8,.l x9,.s x10]]).length=a.length+1:=by simp
  simp only [e3,List.append_assoc] at this
  have e5:a++khb k ([.i .i64 x1,.i .i64 x2,.i .i64 x3,.i .i64 x4,.i .i64 x5,.i .i64 x6,.i .i64 x7,.b x8,.l x9,.s x10] :: b)=(a++[kjb k [.i .i64 x1,.i .i64 x2,.i .i64 x3,.i .i64 x4,.i .i64 x5,.i .i64 x6,.i .i64 x7,.b x8,.l x9,.s x10]])++khb (k+1+1+1+1+1+1+1+1+2 * (x9.length:Int)+1) b:=by rw [khb,e6,List.append_assoc];rfl
  rw [e7,e5,List.append_assoc]
  exact this _
theorem knh (l:Rw) (h:∀r∈l,typL klb r) (hs:∀r∈l,szdL klb r) (hl:l.length≤4000000) (k:Int) (h0:0≤k) (hk:k+kj l≤4000000000000000000):t40 l k=some ([.one (.i .i64 (k+kj l))],[[.l (khb k l)]]):=by
 unfold t40 ta40
 exact kzf _ _ (fun _ _ _ _=>rfl) l [] KK k _ h hs (by rw [kl];omega) (by simpa using hl) h0 hk
theorem gz5:∀z,okR zr46 zo46 (some ([.one (.i .i64 z)],[]))=true:=fun _=>id rfl
theorem ktf (n9:Int) (q1:Int→Int→Bool→Bool→SV→SV→SV→SV→SV→SV→SV→SV→SV→Rs) (q2:Int→Int→Bool→Bool→Bool→SV→SV→SV→SV→SV→SV→SV→SV→Rs) (q3:Int→Int→Bool→Bool→Bool→Bool→SV→SV→SV→SV→SV→SV→SV→Rs) (q4:Int→Int→Bool→Bool→Bool→Bool→Bool→SV→SV→SV→SV→SV→SV→Rs) (q5:Int→Int→Bool→Bool→Bool→Bool→Bool→Bool→SV→SV→SV→SV→SV→Rs) (q6:Int→Int→Bool→Bool→Bool→Bool→Bool→Bool→Bool→SV→SV→SV→SV→Rs) (q7:Int→Int→Bool→Bool→Bool→Bool→Bool→Bool→Bool→Bool→SV→SV→SV→Rs) (q8:Int→Int→Bool→Bool→Bool→Bool→Bool→Bool→Bool→Bool→Bool→SV→SV→Rs) (q9:Int→Int→Bool→Bool→Bool→Bool→Bool→Bool→Bool→Bool→Bool→Bool→SV→Rs) (q10:Int→Int→Bool→Bool→Bool→Bool→Bool→Bool→Bool→Bool→Bool→Bool→Bool→Rs) (q11:Int→Int→Bool→SV→SV→SV→SV→SV→SV→SV→SV→SV→SV→Rs) (hq:∀z0 z1 z2 z3 z4 z5 z6 z7 z8 z9 z10 z11 z12,q11 z0 z1 z2 z3 z4 z5 z6 z7 z8 z9 z10 z11 z12=some ([.one (.i .i64 z0)],[])):∀(b a:Rw) (m:Nat) (k:Int) (v0 v1 v2 v3 v4 v5 v6 v7 v8 v9 v21:SV) (L:Rw) (i:Int),(∀r∈b,typL klb r)→(∀r∈b,szdL klb r)→L=a++khb k b→i=(a.length:Int)→b.length < m→a.length+b.length≤4000000→0≤k→k+kj b≤4000000000000000000 →
  la44o0 t46 t71 L n9 q1 q2 q3 q4 q5 q6 q7 q8 q9 q10 q11 m k i v0 v1 v2 v3 v4 v5 v6 v7 v8 v9 v21=some ([.one (.i .i64 (k+kj b))],[]):=by
 intro b
 induction b with
 | nil =>
  intro a m k v0 v1 v2 v3 v4 v5 v6 v7 v8 v9 v21 L i h hs hL hi hm hl h0 hk
  subst hL hi
  obtain ⟨m,rfl⟩:∃m',m=m' + 1:=⟨m - 1,by omega⟩
  have e:decide ((a.length:Int) < ((a++([]:Rw)).length:Int))=false:=by simp
  have e2:k+kj []=k:=by simp [kj]
  rw [show khb k []=[] from rfl]
  simp only [la44o0,e,bft,if_false,hq,e2]
 | cons r b ih =>
  intro a m k v0 v1 v2 v3 v4 v5 v6 v7 v8 v9 v21 L i h hs hL hi hm hl h0 hk
  subst hL hi
  obtain ⟨m,rfl⟩:∃m',m=m' + 1:=⟨m - 1,by omega⟩
  simp only [List.length_cons] at hm hl
  have hz:=hs r (List.mem_cons_self ..)
  obtain ⟨x1,x2,x3,x4,x5,x6,x7,x8,x9,x10,rfl,wx9,tx9,wx10⟩:=kud (h r (List.mem_cons_self ..))
  have hb:∀r∈b,typL klb r:=fun r hr=>h r (List.mem_cons_of_mem _ hr)
  have hb2:∀r∈b,szdL klb r:=fun r hr=>hs r (List.mem_cons_of_mem _ hr)
  have sx9:x9.length≤1048576∧∀r∈x9,szdL ki r:=hz.2.2.2.2.2.2.2.2.1
  have lx9:=sx9.1
  have nb:=koc b
  have e6:k+knc [.i .i64 x1,.i .i64 x2,.i .i64 x3,.i .i64 x4,.i .i64 x5,.i .i64 x6,.i .i64 x7,.b x8,.l x9,.s x10]=k+1+1+1+1+1+1+1+1+2 * (x9.length:Int)+1:=by simp only [knc,nthD,asL];omega
  have e7:k+kj ([.i .i64 x1,.i .i64 x2,.i .i64 x3,.i .i64 x4,.i .i64 x5,.i .i64 x6,.i .i64 x7,.b x8,.l x9,.s x10] :: b)=k+1+1+1+1+1+1+1+1+2 * (x9.length:Int)+1+kj b:=by rw [kj,←Int.add_assoc,e6]
  rw [e7] at hk
  have e1:∀(r:List D) (b:Rw),decide ((a.length:Int) < ((a++r :: b).length:Int))=true:=fun r b=>decide_eq_true (by simp;omega)
  have e0:decide (0≤(a.length:Int))=true:=decide_eq_true (by omega)
  have eg:∀(r:List D) (b:Rw),(a++r :: b).getD a.length []=r:=fun r b=>kmb a b r _ rfl
  have u0:w64 (k+1)=k+1:=kb _ (by omega)
  have u1:w64 (k+1+1)=k+1+1:=kb _ (by omega)
  have u2:w64 (k+1+1+1)=k+1+1+1:=kb _ (by omega)
  have u3:w64 (k+1+1+1+1)=k+1+1+1+1:=kb _ (by omega)
  have u4:w64 (k+1+1+1+1+1)=k+1+1+1+1+1:=kb _ (by omega)
  have u5:w64 (k+1+1+1+1+1+1)=k+1+1+1+1+1+1:=kb _ (by omega)
  have u6:w64 (k+1+1+1+1+1+1+1)=k+1+1+1+1+1+1+1:=kb _ (by omega)
  have u7:w64 (k+1+1+1+1+1+1+1+1)=k+1+1+1+1+1+1+1+1:=kb _ (by omega)
  have u9:w64 (k+1+1+1+1+1+1+1+1+2 * (x9.length:Int)+1)=k+1+1+1+1+1+1+1+1+2 * (x9.length:Int)+1:=kb _ (by omega)
  have t9:=kk (k+1+1+1+1+1+1+1+1+2 * (x9.length:Int)) (by omega)
  have m8:=kqc x9 (by omega) (k+1+1+1+1+1+1+1+1) (by omega) (by omega)
  have n8:decide (k+1+1+1+1+1+1+1+1+2 * (x9.length:Int) < 0)=false:=decide_eq_false (by omega)
  have hw:=kg a.length (by omega)
  have this:=fun (z0:SV) (z1:SV) (z2:SV) (z3:SV) (z4:SV) (z5:SV) (z6:SV) (z7:SV) (z8:SV) (z9:SV) (z10:SV)=>ih (a++[kjb k [.i .i64 x1,.i .i64 x2,.i .i64 x3,.i .i64 x4,.i .i64 x5,.i .i64 x6,.i .i64 x7,.b x8,.l x9,.s x10]]) m (k+1+1+1+1+1+1+1+1+2 * (x9.length:Int)+1) z0 z1 z2 z3 z4 z5 z6 z7 z8 z9 z10 _ _ hb hb2 rfl rfl (by omega) (by simp;omega) (by omega) (by omega)
  have e3:(a++[kjb k [.i .i64 x1,.i .i64 x2,.i .i64 x3,.i .i64 x4,.i .i64 x5,.i .i64 x6,.i .i64 x7,.b x8,.l x9,.s x10]]).length=a.length+1:=by simp
  simp only [e3,List.append_assoc] at this
  have e5:a++khb k ([.i .i64 x1,.i .i64 x2,.i .i64 x3,.i .i64 x4,.i .i64 x5,.i .i64 x6,.i .i64 x7,.b x8,.l x9,.s x10] :: b)=a++kjb k [.i .i64 x1,.i .i64 x2,.i .i64 x3,.i .i64 x4,.i .i64 x5,.i .i64 x6,.i .i64 x7,.b x8,.l x9,.s x10] :: khb (k+1+1+1+1+1+1+1+1+2 * (x9.length:Int)+1) b:=by rw [khb,e6]
  rw [e5]
  have ez:isRow z110 (kjb k [.i .i64 x1,.i .i64 x2,.i .i64 x3,.i .i64 x4,.i .i64 x5,.i .i64 x6,.i .i64 x7,.b x8,.l x9,.s x10])=true:=rfl
  have d0:asI (nthD (kjb k [.i .i64 x1,.i .i64 x2,.i .i64 x3,.i .i64 x4,.i .i64 x5,.i .i64 x6,.i .i64 x7,.b x8,.l x9,.s x10]) 0)=(k):=rfl
  have d1:asI (nthD (kjb k [.i .i64 x1,.i .i64 x2,.i .i64 x3,.i .i64 x4,.i .i64 x5,.i .i64 x6,.i .i64 x7,.b x8,.l x9,.s x10]) 1)=(k+1):=rfl
  have d2:asI (nthD (kjb k [.i .i64 x1,.i .i64 x2,.i .i64 x3,.i .i64 x4,.i .i64 x5,.i .i64 x6,.i .i64 x7,.b x8,.l x9,.s x10]) 2)=(k+1+1):=rfl
  have d3:asI (nthD (kjb k [.i .i64 x1,.i .i64 x2,.i .i64 x3,.i .i64 x4,.i .i64 x5,.i .i64 x6,.i .i64 x7,.b x8,.l x9,.s x10]) 3)=(k+1+1+1):=rfl
  have d4:asI (nthD (kjb k [.i .i64 x1,.i .i64 x2,.i .i64 x3,.i .i64 x4,.i .i64 x5,.i .i64 x6,.i .i64 x7,.b x8,.l x9,.s x10]) 4)=(k+1+1+1+1):=rfl
  have d5:asI (nthD (kjb k [.i .i64 x1,.i .i64 x2,.i .i64 x3,.i .i64 x4,.i .i64 x5,.i .i64 x6,.i .i64 x7,.b x8,.l x9,.s x10]) 5)=(k+1+1+1+1+1):=rfl
  have d6:asI (nthD (kjb k [.i .i64 x1,.i .i64 x2,.i .i64 x3,.i .i64 x4,.i .i64 x5,.i .i64 x6,.i .i64 x7,.b x8,.l x9,.s x10]) 6)=(k+1+1+1+1+1+1):=rfl
  have d7:asB (nthD (kjb k [.i .i64 x1,.i .i64 x2,.i .i64 x3,.i .i64 x4,.i .i64 x5,.i .i64 x6,.i .i64 x7,.b x8,.l x9,.s x10]) 7)=(((k+1+1+1+1+1+1+1).tmod (3:Int))==(0:Int)):=rfl
  have d8:asL (nthD (kjb k [.i .i64 x1,.i .i64 x2,.i .i64 x3,.i .i64 x4,.i .i64 x5,.i .i64 x6,.i .i64 x7,.b x8,.l x9,.s x10]) 8)=(km (k+1+1+1+1+1+1+1+1) x9):=rfl
  have d9:asS (nthD (kjb k [.i .i64 x1,.i .i64 x2,.i .i64 x3,.i .i64 x4,.i .i64 x5,.i .i64 x6,.i .i64 x7,.b x8,.l x9,.s x10]) 9)=(mkT (k+1+1+1+1+1+1+1+1+2 * (x9.length:Int))):=rfl
  simp only [la44o0,e1,e0,if_true,itn,eg,ez,d0,d1,d2,d3,d4,d5,d6,d7,d8,d9,u0,u1,u2,u3,u4,u5,u6,u7,u9,t9,kx,kw,m8,gz5,gz1,n8,bne_self_eq_false,beq_self_eq_true,bnt,bft,if_false,bat,ka,hw]
  rw [e7]
  exact this _ _ _ _ _ _ _ _ _ _ _
theorem kmh (l:Rw) (h:∀r∈l,typL klb r) (hs:∀r∈l,szdL klb r) (hl:l.length≤4000000) (k:Int) (h0:0≤k) (hk:k+kj l≤4000000000000000000):t44 (khb k l) k=some ([.one (.i .i64 (k+kj l))],[]):=by
 unfold t44 ta44
 exact ktf _ _ _ _ _ _ _ _ _ _ _ _ (fun _ _ _ _ _ _ _ _ _ _ _ _ _=>rfl) l [] KK k _ _ _ _ _ _ _ _ _ _ _ _ _ h hs rfl rfl (by rw [kl];omega) (by simpa using hl) h0 hk
theorem kgm (a b:Rw) (i:Nat) (h:i=a.length) (c1 c2 c3 c4 c5 c6 d:D):stR (a++[c1,c2,c3,c4,c5,c6] :: b) i 0 [d]=a++[d,c2,c3,c4,c5,c6] :: b:=kd a b _ _ i 0 h
theorem knm (a b:Rw) (i:Nat) (h:i=a.length) (c1 c2 c3 c4 c5 c6 d:D):stR (a++[c1,c2,c3,c4,c5,c6] :: b) i 1 [d]=a++[c1,d,c3,c4,c5,c6] :: b:=kd a b _ _ i 1 h
theorem kpm (a b:Rw) (i:Nat) (h:i=a.length) (c1 c2 c3 c4 c5 c6 d:D):stR (a++[c1,c2,c3,c4,c5,c6] :: b) i 2 [d]=a++[c1,c2,d,c4,c5,c6] :: b:=kd a b _ _ i 2 h
theorem kjm (a b:Rw) (i:Nat) (h:i=a.length) (c1 c2 c3 c4 c5 c6 d:D):stR (a++[c1,c2,c3,c4,c5,c6] :: b) i 3 [d]=a++[c1,c2,c3,d,c5,c6] :: b:=kd a b _ _ i 3 h
theorem kim (a b:Rw) (i:Nat) (h:i=a.length) (c1 c2 c3 c4 c5 c6 d:D):stR (a++[c1,c2,c3,c4,c5,c6] :: b) i 4 [d]=a++[c1,c2,c3,c4,d,c6] :: b:=kd a b _ _ i 4 h
theorem kkm (a b:Rw) (i:Nat) (h:i=a.length) (c1 c2 c3 c4 c5 c6 d:D):stR (a++[c1,c2,c3,c4,c5,c6] :: b) i 5 [d]=a++[c1,c2,c3,c4,c5,d] :: b:=kd a b _ _ i 5 h
theorem len6 {r:List D} (h:r.length=6):∃c1 c2 c3 c4 c5 c6,r=[c1,c2,c3,c4,c5,c6]:=by
 match r,h with
 | [c1,c2,c3,c4,c5,c6],_=>exact ⟨c1,c2,c3,c4,c5,c6,rfl⟩
noncomputable def knb (k:Int):List D:=[.i .i64 (k),.i .i64 (k+1),.i .i64 (k+1+1),.b (((k+1+1+1).tmod (3:Int))==(0:Int)),.i .i64 (k+1+1+1+1),.s (mkT (k+1+1+1+1+1))]
noncomputable def kfb:Int→Rw→Rw
 | _,[]=>[]
 | k,_ :: b=>knb k :: kfb (k+1+1+1+1+1+1) b
theorem kif (n8:Int) (q:Int→Int→Bool→Rw→Rs) (hq:∀a b c d,q a b c d=some ([.one (.i .i64 a)],[[.l d]])):∀(b a:Rw) (m:Nat) (k:Int) (v0:SV),(∀r∈b,r.length=6)→b.length < m→a.length+b.length≤4000000→0≤k→k+6 * (b.length:Int)≤4000000000000000000 →
  la41o0 t71 n8 q m k (a.length:Int) v0 (a++b)=some ([.one (.i .i64 (k+6 * (b.length:Int)))],[[.l (a++kfb k b)]]):=by
 intro b
 induction b with
 | nil =>
  intro a m k v0 h hm hl h0 hk
  obtain ⟨m,rfl⟩:∃m',m=m' + 1:=⟨m - 1,by omega⟩
  have e:decide ((a.length:Int) < ((a++([]:Rw)).length:Int))=false:=by simp
  have e2:k+6 * ((([]:Rw).length:Nat):Int)=k:=by simp
  simp only [la41o0,e,bft,if_false,hq,e2,kfb]
 | cons r b ih =>
  intro a m k v0 h hm hl h0 hk
  obtain ⟨m,rfl⟩:∃m',m=m' + 1:=⟨m - 1,by omega⟩
  simp only [List.length_cons] at hm hl hk
  obtain ⟨c1,c2,c3,c4,c5,c6,rfl⟩:=len6 (h r (List.mem_cons_self ..))
  have hb:∀r∈b,r.length=6:=fun r hr=>h r (List.mem_cons_of_mem _ hr)
  have e1:∀r:List D,decide ((a.length:Int) < ((a++r :: b).length:Int))=true:=fun r=>decide_eq_true (by simp;omega)
  have e0:decide (0≤(a.length:Int))=true:=decide_eq_true (by omega)
  have p1:∀r:List D,decide (1≤6∧a.length < (a++r :: b).length)=true:=fun r=>decide_eq_true (by simp)
  have p2:∀r:List D,decide (2≤6∧a.length < (a++r :: b).length)=true:=fun r=>decide_eq_true (by simp)
  have p3:∀r:List D,decide (3≤6∧a.length < (a++r :: b).length)=true:=fun r=>decide_eq_true (by simp)
  have p4:∀r:List D,decide (4≤6∧a.length < (a++r :: b).length)=true:=fun r=>decide_eq_true (by simp)
  have p5:∀r:List D,decide (5≤6∧a.length < (a++r :: b).length)=true:=fun r=>decide_eq_true (by simp)
  have p6:∀r:List D,decide (6≤6∧a.length < (a++r :: b).length)=true:=fun r=>decide_eq_true (by simp)
  have u1:w64 (k+1)=k+1:=kb _ (by omega)
  have u2:w64 (k+1+1)=k+1+1:=kb _ (by omega)
  have u3:w64 (k+1+1+1)=k+1+1+1:=kb _ (by omega)
  have u4:w64 (k+1+1+1+1)=k+1+1+1+1:=kb _ (by omega)
  have u5:w64 (k+1+1+1+1+1)=k+1+1+1+1+1:=kb _ (by omega)
  have u6:w64 (k+1+1+1+1+1+1)=k+1+1+1+1+1+1:=kb _ (by omega)
  have t5:=kk (k+1+1+1+1+1) (by omega)
  have hw:=kg a.length (by omega)
  simp only [la41o0,e1,e0,if_true,itn,p1,p2,p3,p4,p5,p6,u1,u2,u3,u4,u5,u6,t5,ta5,kx,kw,kgm a b _ rfl,knm a b _ rfl,kpm a b _ rfl,kjm a b _ rfl,kim a b _ rfl,kkm a b _ rfl,bat,ka,hw]
  have:=fun (z0:SV)=>ih (a++[knb k]) m (k+1+1+1+1+1+1) z0 hb (by omega) (by simp;omega) (by omega) (by omega)
  have e3:(a++[knb k]).length=a.length+1:=by simp
  simp only [e3,List.append_assoc] at this
  have e4:k+6 * ((([c1,c2,c3,c4,c5,c6] :: b).length:Nat):Int)=k+1+1+1+1+1+1+6 * (b.length:Int):=by simp only [List.length_cons];omega
  have e5:a++kfb k ([c1,c2,c3,c4,c5,c6] :: b)=(a++[knb k])++kfb (k+1+1+1+1+1+1) b:=by simp [kfb]
  rw [e4,e5,List.append_assoc]
  exact this _
theorem kxg (l:Rw) (h:∀r∈l,r.length=6) (hl:l.length≤4000000) (k:Int) (h0:0≤k) (hk:k+6 * (l.length:Int)≤4000000000000000000):t41 l k=some ([.one (.i .i64 (k+6 * (l.length:Int)))],[[.l (kfb k l)]]):=by
 unfold t41 ta41
 exact kif _ _ (fun _ _ _ _=>rfl) l [] KK k _ h (by rw [kl];omega) (by simpa using hl) h0 hk
theorem kef (n9:Int) (q1:Int→Int→Bool→Bool→SV→SV→SV→SV→SV→Rs) (q2:Int→Int→Bool→Bool→Bool→SV→SV→SV→SV→Rs) (q3:Int→Int→Bool→Bool→Bool→Bool→SV→SV→SV→Rs) (q4:Int→Int→Bool→Bool→Bool→Bool→Bool→SV→SV→Rs) (q5:Int→Int→Bool→Bool→Bool→Bool→Bool→Bool→SV→Rs) (q6:Int→Int→Bool→Bool→Bool→Bool→Bool→Bool→Bool→Rs) (q7:Int→Int→Bool→SV→SV→SV→SV→SV→SV→Rs) (hq:∀x0 x1 x2 x3 x4 x5 x6 x7 x8,q7 x0 x1 x2 x3 x4 x5 x6 x7 x8=some ([.one (.i .i64 x0)],[])):∀(b a:Rw) (m:Nat) (k:Int) (v0 v1 v2 v3 v4 v5 v6:SV) (L:Rw) (i:Int),L=a++kfb k b→i=(a.length:Int)→b.length < m→a.length+b.length≤4000000→0≤k→k+6 * (b.length:Int)≤4000000000000000000 →
  la45o0 t71 L n9 q1 q2 q3 q4 q5 q6 q7 m k i v0 v1 v2 v3 v4 v5 v6=some ([.one (.i .i64 (k+6 * (b.length:Int)))],[]):=by
 intro b
 induction b with
 | nil =>
  intro a m k v0 v1 v2 v3 v4 v5 v6 L i hL hi hm hl h0 hk
  subst hL hi
  obtain ⟨m,rfl⟩:∃m',m=m' + 1:=⟨m - 1,by omega⟩
  have e:decide ((a.length:Int) < ((a++([]:Rw)).length:Int))=false:=by simp
  have e2:k+6 * ((([]:Rw).length:Nat):Int)=k:=by simp
  rw [show kfb k []=[] from rfl]
  simp only [la45o0,e,bft,if_false,hq,e2]
 | cons r b ih =>
  intro a m k v0 v1 v2 v3 v4 v5 v6 L i hL hi hm hl h0 hk
  subst hL hi
  obtain ⟨m,rfl⟩:∃m',m=m' + 1:=⟨m - 1,by omega⟩
  simp only [List.length_cons] at hm hl hk
  have e1:∀(r:List D) (b:Rw),decide ((a.length:Int) < ((a++r :: b).length:Int))=true:=fun r b=>decide_eq_true (by simp;omega)
  have e0:decide (0≤(a.length:Int))=true:=decide_eq_true (by omega)
  have eg:∀(r:List D) (b:Rw),(a++r :: b).getD a.length []=r:=fun r b=>kmb a b r _ rfl
  have u1:w64 (k+1)=k+1:=kb _ (by omega)
  have u2:w64 (k+1+1)=k+1+1:=kb _ (by omega)
  have u3:w64 (k+1+1+1)=k+1+1+1:=kb _ (by omega)
  have u4:w64 (k+1+1+1+1)=k+1+1+1+1:=kb _ (by omega)
  have u5:w64 (k+1+1+1+1+1)=k+1+1+1+1+1:=kb _ (by omega)
  have u6:w64 (k+1+1+1+1+1+1)=k+1+1+1+1+1+1:=kb _ (by omega)
  have t5:=kk (k+1+1+1+1+1) (by omega)
  have hw:=kg a.length (by omega)
  have this:=fun (z0:SV) (z1:SV) (z2:SV) (z3:SV) (z4:SV) (z5:SV) (z6:SV)=>ih (a++[knb k]) m (k+1+1+1+1+1+1) z0 z1 z2 z3 z4 z5 z6 _ _ rfl rfl (by omega) (by simp;omega) (by omega) (by omega)
  have e3:(a++[knb k]).length=a.length+1:=by simp
  simp only [e3,List.append_assoc] at this
  have e4:k+6 * (((r :: b).length:Nat):Int)=k+1+1+1+1+1+1+6 * (b.length:Int):=by simp only [List.length_cons];omega
  have e5:a++kfb k (r :: b)=a++knb k :: kfb (k+1+1+1+1+1+1) b:=rfl
  rw [e5]
  have ez:isRow z113 (knb k)=true:=rfl
  have d0:asI (nthD (knb k) 0)=k:=rfl
  have d1:asI (nthD (knb k) 1)=k+1:=rfl
  have d2:asI (nthD (knb k) 2)=k+1+1:=rfl
  have d3:asB (nthD (knb k) 3)=(((k+1+1+1).tmod (3:Int))==(0:Int)):=rfl
  have d4:asI (nthD (knb k) 4)=k+1+1+1+1:=rfl
  have d5:asS (nthD (knb k) 5)=mkT (k+1+1+1+1+1):=rfl
  simp only [la45o0,e1,e0,if_true,itn,eg,ez,d0,d1,d2,d3,d4,d5,u1,u2,u3,u4,u5,u6,t5,ta5,kx,kw,bne_self_eq_false,beq_self_eq_true,bnt,bft,if_false,bat,ka,hw]
  rw [e4]
  exact this _ _ _ _ _ _ _
theorem kpg (l:Rw) (hl:l.length≤4000000) (k:Int) (h0:0≤k) (hk:k+6 * (l.length:Int)≤4000000000000000000):t45 (kfb k l) k=some ([.one (.i .i64 (k+6 * (l.length:Int)))],[]):=by
 unfold t45 ta45
 exact kef _ _ _ _ _ _ _ _ (fun _ _ _ _ _ _ _ _ _=>rfl) l [] KK k _ _ _ _ _ _ _ _ _ rfl rfl (by rw [kl];omega) (by simpa using hl) h0 hk
theorem kuh (x1:Rw) (x2:Rw) (x3:Rw) (x4:Rw) (x5:Bool) (tx1:∀r∈x1,typL ky r) (sx1:∀r∈x1,szdL ky r) (wx1:x1.length≤1048576) (bx1:kf x1≤1000000000000) (tx2:∀r∈x2,typL klb r) (sx2:∀r∈x2,szdL klb r) (wx2:x2.length≤1048576) (mx3:∀r∈x3,r.length=6) (wx3:x3.length≤1048576) (mx4:∀r∈x4,r.length=2) (wx4:x4.length≤1048576) (k:Int) (h0:0≤k) (hk:k≤1000000000000):t13 x1 x2 x3 x4 x5 k=some ([.one (.i .i64 (k+kf x1+kj x2+6 * (x3.length:Int)+2 * (x4.length:Int)))],[[.l (kab (k) x1),.l (khb (k+kf x1) x2),.l (kfb (k+kf x1+kj x2) x3),.l (km (k+kf x1+kj x2+6 * (x3.length:Int)) x4),.b x5]]):=by
 have nx1:=klc x1
 have bx2:=kzc x2 tx2 sx2;have nx2:=koc x2
 simp only [t13,ta13,ksg x1 tx1 sx1 (by omega) (k) (by omega) (by omega),knh x2 tx2 sx2 (by omega) (k+kf x1) (by omega) (by omega),kxg x3 mx3 (by omega) (k+kf x1+kj x2) (by omega) (by omega),krc x4 mx4 (by omega) (k+kf x1+kj x2+6 * (x3.length:Int)) (by omega) (by omega),zr39,zo39,zr40,zo40,zr41,zo41,zr42,zo42,okR,isVs,isV,isD,isDs,isOs,resC,outC,nthR,nthO,cellsDV,nthD,asB,asI,asS,asL,bat,bta,BEq.rfl,ka,decide_true]
theorem kwh (x1:Rw) (x2:Rw) (x3:Rw) (x4:Rw) (x5:Bool) (tx1:∀r∈x1,typL ky r) (sx1:∀r∈x1,szdL ky r) (wx1:x1.length≤1048576) (bx1:kf x1≤1000000000000) (tx2:∀r∈x2,typL klb r) (sx2:∀r∈x2,szdL klb r) (wx2:x2.length≤1048576) (mx3:∀r∈x3,r.length=6) (wx3:x3.length≤1048576) (mx4:∀r∈x4,r.length=2) (wx4:x4.length≤1048576) (k:Int) (h0:0≤k) (hk:k≤1000000000000):t14 (kab (k) x1) (khb (k+kf x1) x2) (kfb (k+kf x1+kj x2) x3) (km (k+kf x1+kj x2+6 * (x3.length:Int)) x4) x5 k=some ([.one (.i .i64 (k+kf x1+kj x2+6 * (x3.length:Int)+2 * (x4.length:Int)))],[]):=by
 have nx1:=klc x1
 have bx2:=kzc x2 tx2 sx2;have nx2:=koc x2
 have n0:decide (k+kf x1 < 0)=false:=decide_eq_false (by omega)
 have n1:decide (k+kf x1+kj x2 < 0)=false:=decide_eq_false (by omega)
 have n2:decide (k+kf x1+kj x2+6 * (x3.length:Int) < 0)=false:=decide_eq_false (by omega)
 have n3:decide (k+kf x1+kj x2+6 * (x3.length:Int)+2 * (x4.length:Int) < 0)=false:=decide_eq_false (by omega)
 simp only [t14,ta14,kgh x1 tx1 sx1 (by omega) (k) (by omega) (by omega),kmh x2 tx2 sx2 (by omega) (k+kf x1) (by omega) (by omega),kpg x3 (by omega) (k+kf x1+kj x2) (by omega) (by omega),kqc x4 (by omega) (k+kf x1+kj x2+6 * (x3.length:Int)) (by omega) (by omega),zr43,zo43,zr44,zo44,zr45,zo45,zr46,zo46,n0,n1,n2,n3,bft,if_false,okR,isVs,isV,isD,isDs,isOs,resC,outC,nthR,nthO,cellsDV,nthD,asB,asI,asS,asL,bat,bta,BEq.rfl,ka,decide_true]
def mx (p:Int):Int:=if p < 1 then 1 else p
def allB (f:Nat→Bool):Nat→Nat→Bool
 | 0,_=>true
 | k+1,i=>f i&&allB f k (i+1)
theorem kac:∀r,typL kr r→isRow z3 r=true:=fun r h=>by
 obtain ⟨a,rfl⟩:=kdi h;rfl
theorem kfl {n:Nat} {l:Rw} (h:∀r∈l,(decide (r.length=n)&&allSc r)=true):flatR n l=true:=by
 induction l with
 | nil=>rfl
 | cons r l ih=>simp only [flatR,h r (by simp),ih (fun r hr=>h r (by simp [hr])),bat]
theorem kuc {l:Rw} (h:∀r∈l,typL ki r):flatR 2 l=true:=kfl fun r hr=>by
 obtain ⟨a,b,rfl,_⟩:=kyc (h r hr);rfl
theorem kxi (n0 n1 n2 n3:Int) (s0:BA) (l0:Rw) (b0 b1:Bool) (t n4 n5 n6:Int) (s1:BA) (q1:Int→Int→Bool→Bool→Int→BA→Rs) (q2:Int→Int→Bool→SV→Rs) (h1:∀a b c d e f,q1 a b c d e f=some ([.one (.b false)],[])) (h2:∀a b c d,q2 a b c d=some ([.one (.b true)],[])) (l:Rw) (h:∀r∈l,typL ki r) (hl:l.length < 4611686018427387904):∀(k i m:Nat) (p:Int) (v w:SV),i+k=l.length→k < m →
  la81o1 t34 t108 n0 n1 n2 n3 s0 l0 b0 b1 t n4 n5 n6 s1 l q1 q2 m p i v w=some ([.one (.b (runB l t k i (mx p)))],[]):=by
 intro k
 induction k with
 | zero =>
  intro i m p v w e hm
  obtain ⟨m,rfl⟩:∃m',m=m' + 1:=⟨m - 1,by omega⟩
  have ei:decide ((i:Int) < (l.length:Int))=false:=by simp;omega
  simp only [la81o1,ei,h2,runB]
  simp
 | succ k ih =>
  intro i m p v w e hm
  obtain ⟨m,rfl⟩:∃m',m=m' + 1:=⟨m - 1,by omega⟩
  have e1:=kyb (i:=i) (n:=l.length) (by omega)
  have ez:=krb h _ kfd i (by omega)
  simp only [la81o1,e1,kxb,itn,ez,bat,ka,if_true,runB]
  rw [kg i (by omega)]
  have hm1:mx p=if p < 1 then 1 else p:=rfl
  by_cases g:mx p≤asI (nthD (l.getD i []) 0)∧asI (nthD (l.getD i []) 0)≤t∧((asS (nthD (l.getD i []) 1)).size:Int)≤1600
  ·have g1:(((decide (asI (nthD (l.getD i []) 0) < 1)||decide (asI (nthD (l.getD i []) 0) < p))||decide (asI (nthD (l.getD i []) 0) > t))||decide (((asS (nthD (l.getD i []) 1)).size:Int) > 1600))=false:=by
    simp only [Bool.or_eq_false_iff,decide_eq_false_iff_not];rw [hm1] at g;split at g<;>omega
   simp only [g1,decide_eq_true g,bta,bft,if_false]
   have hmx:mx (asI (nthD (l.getD i []) 0))=asI (nthD (l.getD i []) 0):=by unfold mx;rw [hm1] at g;split at g<;>(rw [if_neg (by omega)])
   have:=ih (i+1) m (asI (nthD (l.getD i []) 0)) (.d (.b true)) (.d (.b false)) (by omega) (by omega)
   rw [hmx] at this
   exact this
  ·have g1:(((decide (asI (nthD (l.getD i []) 0) < 1)||decide (asI (nthD (l.getD i []) 0) < p))||decide (asI (nthD (l.getD i []) 0) > t))||decide (((asS (nthD (l.getD i []) 1)).size:Int) > 1600))=true:=by
    simp only [Bool.or_eq_true,decide_eq_true_eq];rw [hm1] at g;split at g<;>omega
   simp only [g1,if_true,h1,decide_eq_false g,Bool.false_and]
theorem gz6:∀x,okR zr18 zo18 (some ([.one (.b x)],[]))=true:=fun _=>id rfl
theorem gz7:∀x,asB (resC (some ([.one (.b x)],[])) 0 0)=x:=fun _=>id rfl
theorem kri (n0 n1 n2 n3:Int) (s0:BA) (l0:Rw) (b0 b1 b2:Bool) (t n4 n5 n6:Int) (s1:BA) (l1:Rw) (q1:Int→Int→Bool→Bool→Int→BA→Rs) (q2:Int→Int→Bool→SV→Rs) (g:Bool) (h1:∀a b c d e f,q1 a b c d e f=some ([.one (.b false)],[])) (h2:∀a b c d,q2 a b c d=some ([.one (.b g)],[])) (l:Rw) (h:∀r∈l,typL ki r) (hl:l.length < 4611686018427387904):∀(k i m:Nat) (p:Int) (v w:SV),i+k=l.length→k < m →
  la130o2 t18 n0 n1 n2 n3 s0 l0 b0 b1 b2 l (l.length:Int) t n4 n5 n6 s1 l1 q1 q2 m p i v w=some ([.one (.b (runB l t k i p&&g))],[]):=by
 intro k
 induction k with
 | zero =>
  intro i m p v w e hm
  obtain ⟨m,rfl⟩:∃m',m=m' + 1:=⟨m - 1,by omega⟩
  have ei:decide ((i:Int) < (l.length:Int))=false:=by simp;omega
  simp only [la130o2,ei,h2,runB]
  simp
 | succ k ih =>
  intro i m p v w e hm
  obtain ⟨m,rfl⟩:∃m',m=m' + 1:=⟨m - 1,by omega⟩
  have e1:=kyb (i:=i) (n:=l.length) (by omega)
  have ez:=krb h _ kfd i (by omega)
  simp only [la130o2,e1,kxb,itn,ez,kvb,gz6,gz7,bat,bto,ka,if_true,runB]
  rw [kg i (by omega)]
  by_cases g':p≤asI (nthD (l.getD i []) 0)∧asI (nthD (l.getD i []) 0)≤t∧((asS (nthD (l.getD i []) 1)).size:Int)≤1600
  ·have g1:(decide (((asS (nthD (l.getD i []) 1)).size:Int) > 1600)||!(decide (p≤asI (nthD (l.getD i []) 0))&&decide (asI (nthD (l.getD i []) 0)≤t)))=false:=by
    simp only [Bool.or_eq_false_iff,Bool.not_eq_false',Bool.and_eq_true,decide_eq_false_iff_not,decide_eq_true_eq];omega
   simp only [g1,decide_eq_true g',bta,bft,if_false]
   exact ih (i+1) m _ _ _ (by omega) (by omega)
  ·have g1:(decide (((asS (nthD (l.getD i []) 1)).size:Int) > 1600)||!(decide (p≤asI (nthD (l.getD i []) 0))&&decide (asI (nthD (l.getD i []) 0)≤t)))=true:=by
    simp only [Bool.or_eq_true,Bool.not_eq_true',Bool.and_eq_false_iff,decide_eq_false_iff_not,decide_eq_true_eq];omega
   simp only [g1,if_true,h1,decide_eq_false g',Bool.false_and]
def kpd (t v si st:Int) (ss:BA) (l:Rw):Bool :=
 decide (0≤t∧t≤100000∧-1≤v∧v≤4∧(si=0→(ss.size:Int)=0)∧(ss.size:Int)≤20000∧st≤t∧(l.length:Int)≤60∧w64 (si+(l.length:Int))≤100000)&&kcd si st
def kfc (t v si st:Int) (ss:BA) (l:Rw):Bool:=kpd t v si st ss l&&runB l t l.length 0 (mx st)
theorem gz8:∀x,okR zr34 zo34 (some ([.one (.b x)],[]))=true:=fun _=>id rfl
theorem gz9:∀x,okR zr108 zo108 (some ([.one (.b x)],[]))=true:=fun _=>id rfl
theorem kjd (t v si st:Int) (ss:BA) (l:Rw) (hl:l.length≤1048576) (h:∀r∈l,typL ki r):t81 t v si st ss l=some ([.one (.b (kfc t v si st ss l))],[]):=by
 have key:=fun b0 b1=>kxi t v si st ss l b0 b1 t v si st ss (fun _ _ _ _ _ _=>some ([.one (.b false)],[])) (fun _ _ _ _=>some ([.one (.b true)],[])) (fun _ _ _ _ _ _=>rfl) (fun _ _ _ _=>rfl) l h (by omega) l.length 0 KK st .undef .undef (by omega) (by rw [kl];omega)
 simp only [t81,ta81,kad,kmi,gz8,gz9,gz7,bto,ka]
 rw [kwc _ (kpd t v si st ss l)]
 ·unfold kfc
  cases kpd t v si st ss l
  ·rfl
  ·refine Eq.trans (key _ _) ?_;simp
 ·unfold kpd
  generalize kcd si st=pl
  rw [Bool.eq_iff_iff]
  cases pl<;>simp [-ByteArray.size_eq_zero_iff]<;>try omega
theorem kkd (t v si st:Int) (ss:BA) (l:Rw) (hl:l.length≤1048576) (h:∀r∈l,typL ki r):t130 t v si st ss l=some ([.one (.b (kfc t v si st ss l))],[]):=by
 have key:=fun b0 b1 b2=>kri t v si st ss l b0 b1 b2 t v si st ss l (fun _ _ _ _ _ _=>some ([.one (.b false)],[])) (fun _ _ _ _=>some ([.one (.b (decide (w64 (si+(l.length:Int))≤100000)))],[])) _ (fun _ _ _ _ _ _=>rfl) (fun _ _ _ _=>rfl) l h (by omega) l.length 0 KK (mx st) .undef .undef (by omega) (by rw [kl];omega)
 have e:(if st > 1 then st else 1)=mx st:=by unfold mx;split<;>split<;>omega
 simp only [t130,ta130,kvb,gz6,gz7,bto,ka,e]
 unfold kfc kpd kcd
 split
 ·rename_i g
  apply kub
  symm
  rw [Bool.eq_false_iff]
  simp at g ⊢
  omega
 ·rename_i g
  split
  ·rename_i g2
   apply kub
   symm
   rw [Bool.eq_false_iff]
   simp [-ByteArray.size_eq_zero_iff] at g g2 ⊢
   omega
  ·rename_i g2
   refine Eq.trans (key _ _ _) ?_
   apply kub
   rw [Bool.eq_iff_iff]
   generalize runB l t l.length 0 (mx st)=r
   cases r
   ·simp
   ·simp [-ByteArray.size_eq_zero_iff] at g g2 ⊢
    omega
structure KS where
 (t v si st:Int) (sd:BA) (es:Rw)
structure RC where
 (k t i v:Int) (d:BA)
def kD (k:KS):List D:=[.i .i64 k.t,.i .i64 k.v,.i .i64 k.si,.i .i64 k.st,.s k.sd,.l k.es]
def kbc (r:RC):Bool :=
 (decide (r.k=1)&&decide (0≤r.t∧r.t≤100000∧-1≤r.v∧r.v≤4∧r.i=0∧(r.d.size:Int)=0)) ||
 (decide (r.k=2)&&decide (1≤r.t∧r.t≤100000∧1≤r.i∧r.i≤100000∧r.v=0∧(r.d.size:Int)≤1600)) ||
 (decide (r.k=3)&&decide (r.t=0∧1≤r.i∧r.i≤100000∧r.v=0∧(r.d.size:Int)=0)) ||
 (decide (r.k=4)&&decide (1≤r.t∧r.t≤100000∧1≤r.i∧r.i≤100000∧r.v=0∧(r.d.size:Int)≤20000))
def kse (k:KS):Int:=if k.es.length=0 then k.st else asI (nthD (k.es.getD (k.es.length - 1) []) 0)
def kpc (k:KS) (r:RC):Bool :=
 if r.k=1 then decide (r.t > k.t∨(r.t=k.t∧(k.v=-1∨r.v=k.v)))
 else if r.k=2 then decide (r.i=k.si+(k.es.length:Int)+1∧k.es.length < 60∧kse k≤r.t∧r.t≤k.t)
 else if r.k=3 then decide (k.si < r.i∧r.i≤k.si+(k.es.length:Int))
 else decide (k.si < r.i∧r.t≤k.t)
def kbd (k:KS) (i t:Int):Rw :=
 if i - k.si≤(k.es.length:Int)∧asI (nthD (k.es.getD (i - k.si - 1).toNat []) 0)=t then k.es.drop (i - k.si).toNat else []
def kdc (k:KS) (r:RC):KS × Bool :=
 if kbc r&&kpc k r then
  if r.k=1 then (⟨r.t,r.v,k.si,k.st,k.sd,k.es⟩,true)
  else if r.k=2 then (⟨k.t,k.v,k.si,k.st,k.sd,k.es++[[.i .i64 r.t,.s r.d]]⟩,true)
  else if r.k=3 then (⟨k.t,k.v,k.si,k.st,k.sd,k.es.take (r.i - k.si - 1).toNat⟩,true)
  else (⟨k.t,k.v,r.i,r.t,r.d,kbd k r.i r.t⟩,true)
 else (k,false)
structure KI (k:KS):Prop where
 h0:0≤k.si
 h1:k.si≤100000
 h2:k.es.length≤60
 h3:∀r∈k.es,typL ki r
theorem kni (n:Int) (h:-9223372036854775808≤n∧n≤9223372036854775807):(Lit.int .i64 n).wf=true:=by
 have:IntKind.wrap .i64 n=n:=kb n h
 simp [Lit.wf,this]
 exact h
theorem KI.step {k:KS} (h:KI k) (r:RC) (g:kbc r=true):KI (kdc k r).1:=by
 unfold kdc
 split
 ·rename_i hc
  simp only [Bool.and_eq_true] at hc
  have hf:=hc.2
  have hr:=hc.1
  simp only [kbc,Bool.or_eq_true,Bool.and_eq_true,decide_eq_true_eq] at hr
  split
  ·exact ⟨h.h0,h.h1,h.h2,h.h3⟩
  split
  ·rename_i h2
   simp only [kpc,h2] at hf
   simp at hf
   refine ⟨h.h0,h.h1,by simp;omega,fun x hx=>?_⟩
   rcases List.mem_append.1 hx with hx | hx
   ·exact h.h3 x hx
   ·simp at hx;subst hx
    have hm:1600≤maxLen:=by decide
    exact ⟨_,_,rfl,⟨r.t,rfl,kni _ (by omega)⟩,_,_,rfl,⟨r.d,rfl,by omega⟩,rfl⟩
  split
  ·exact ⟨h.h0,h.h1,by have:=h.h2;simp;omega,fun x hx=>h.h3 x (List.mem_of_mem_take hx)⟩
  ·refine ⟨by simp only;omega,by simp only;omega,?_,fun x hx=>?_⟩
   ·have:=h.h2
    unfold kbd;split
    ·simp;omega
    ·simp
   ·unfold kbd at hx;split at hx
    ·exact h.h3 x (List.mem_of_mem_drop hx)
    ·simp at hx
 ·exact h
theorem kog {t v si st:Int} {ss:BA} {l:Rw} (h:∀r∈l,typL ki r) (hb:kfc t v si st ss l=true):KI ⟨t,v,si,st,ss,l⟩:=by
 simp only [kfc,kpd,kcd,Bool.and_eq_true,decide_eq_true_eq] at hb
 exact ⟨by simp only;omega,by simp only;omega,by simp only;omega,h⟩
theorem kli (a b c d:Int) (e:BA):t137 a b c d e=some ([.one (.b (kbc ⟨a,b,c,d,e⟩))],[]):=by
 simp [-ByteArray.size_eq_zero_iff,t137,ta137,kad,zr34,zo34,kbc]
 (repeat' split)<;>(apply kub;rw [Bool.eq_iff_iff];simp [-ByteArray.size_eq_zero_iff];omega)
theorem kti (a b c d:Int) (e:BA):t169 a b c d e=some ([.one (.b (kbc ⟨a,b,c,d,e⟩))],[]):=by
 simp [-ByteArray.size_eq_zero_iff,t169,ta169,kvb,zr18,zo18,kbc]
 (repeat' split)<;>(apply kub;rw [Bool.eq_iff_iff];simp [-ByteArray.size_eq_zero_iff];omega)
theorem kmg {k:KS} (h:KI k) (hn:¬ k.es.length=0):w64 ((k.es.length:Int) - 1)=((k.es.length - 1:Nat):Int)∧(decide ((0:Int)≤((k.es.length - 1:Nat):Int))&&decide (((k.es.length - 1:Nat):Int) < (k.es.length:Int))&&isRow z116 (k.es.getD (k.es.length - 1) []))=true:=by
 have:=h.h2
 refine ⟨by rw [kb _ (by omega)];omega,?_⟩
 rw [kxb,kyb (show k.es.length - 1 < k.es.length by omega),krb h.h3 _ kfd _ (by omega)]
 rfl
theorem kaj (k:KS) (h:KI k):t164 k.t k.v k.si k.st k.sd k.es=some ([.one (.i .i64 (kse k))],[]):=by
 unfold t164 kse
 by_cases hn:k.es.length=0
 ·have e:((k.es.length:Int)==0)=true:=by simp [hn]
  simp only [e,if_true,if_pos hn]
 ·have e:((k.es.length:Int)==0)=false:=by rw [beq_eq_false_iff_ne];omega
  obtain ⟨e1,e2⟩:=kmg h hn
  simp only [e,bft,if_false,if_neg hn,e1,itn,e2,ka]
theorem gz10:∀x,okR zr164 zo164 (some ([.one (.i .i64 x)],[]))=true:=fun _=>id rfl
theorem gz11:∀x,asI (resC (some ([.one (.i .i64 x)],[])) 0 0)=x:=fun _=>id rfl
theorem kkj (k:KS) (h:KI k) (r:RC) (hr:kbc r=true):t138 k.t k.v k.si k.st k.sd k.es r.k r.t r.i r.v r.d=some ([.one (.b (kpc k r))],[]):=by
 have h0:=h.h0;have h1:=h.h1;have h2:=h.h2
 have e1:w64 (k.si+(k.es.length:Int))=k.si+(k.es.length:Int):=kb _ (by omega)
 have e2:w64 (k.si+(k.es.length:Int)+1)=k.si+(k.es.length:Int)+1:=kb _ (by omega)
 simp only [t138,ta138,kaj k h,gz10,gz11,e1,e2,bto,ka,kpc]
 have hk:r.k=1∨r.k=2∨r.k=3∨r.k=4:=by
  simp only [kbc,Bool.or_eq_true,Bool.and_eq_true,decide_eq_true_eq] at hr;omega
 rcases hk with hk | hk | hk | hk<;>(simp [hk];try (rw [Bool.eq_iff_iff];simp;try omega))
theorem koi (k:KS) (h:KI k):t183 k.t k.v k.si k.st k.sd k.es=some ([.one (.i .i64 (k.si+(k.es.length:Int))),.one (.i .i64 (kse k))],[]):=by
 have h0:=h.h0;have h1:=h.h1;have h2:=h.h2
 have e1:w64 (k.si+(k.es.length:Int))=k.si+(k.es.length:Int):=kb _ (by omega)
 unfold t183 kse
 by_cases hn:k.es.length=0
 ·have e:((k.es.length:Int)==0)=true:=by simp [hn]
  have e0:k.si+(k.es.length:Int)=k.si:=by omega
  simp only [e,if_true,if_pos hn,e0]
 ·have e:((k.es.length:Int)==0)=false:=by rw [beq_eq_false_iff_ne];omega
  obtain ⟨e3,e2⟩:=kmg h hn
  simp only [e,bft,if_false,if_neg hn,e1,e3,itn,e2,ka]
theorem gz12:∀x y,okR zr183 zo183 (some ([.one (.i .i64 x),.one (.i .i64 y)],[]))=true:=fun _ _=>id rfl
theorem gz13:∀x y,asI (resC (some ([.one (.i .i64 x),.one (.i .i64 y)],[])) 0 0)=x:=fun _ _=>id rfl
theorem gz14:∀x y,asI (resC (some ([.one (.i .i64 x),.one (.i .i64 y)],[])) 1 0)=y:=fun _ _=>id rfl
theorem klj (k:KS) (h:KI k) (r:RC) (hr:kbc r=true):t170 k.t k.v k.si k.st k.sd k.es r.k r.t r.i r.v r.d=some ([.one (.b (kpc k r))],[]):=by
 have h0:=h.h0;have h1:=h.h1;have h2:=h.h2
 have e2:w64 (k.si+(k.es.length:Int)+1)=k.si+(k.es.length:Int)+1:=kb _ (by omega)
 have e3:w64 (k.si+1)=k.si+1:=kb _ (by omega)
 simp only [t170,ta170,koi k h,kvb,gz12,gz13,gz14,gz6,gz7,e2,e3,bto,ka,kpc]
 have hk:r.k=1∨r.k=2∨r.k=3∨r.k=4:=by
  simp only [kbc,Bool.or_eq_true,Bool.and_eq_true,decide_eq_true_eq] at hr;omega
 rcases hk with hk | hk | hk | hk<;>(simp [hk];try (rw [Bool.eq_iff_iff];simp;try omega))
theorem kbj (t:Int) (d:BA) (l:Rw) (h:l.length≤60):((flatR 2 [[.i .i64 t,.s d]])&&decide (l.length + [[D.i .i64 t,D.s d]].length≤lim))=true:=by
 have:l.length+1≤lim:=by unfold lim;omega
 simpa [flatR,allSc,isSc] using this
theorem khk {k:KS} (h:KI k) (n:Nat):flatR 2 (k.es.drop n)=true:=kuc fun r hr=>h.h3 r (List.mem_of_mem_drop hr)
theorem gz15:∀x,okR zr137 zo137 (some ([.one (.b x)],[]))=true:=fun _=>id rfl
theorem gz16:∀x,okR zr138 zo138 (some ([.one (.b x)],[]))=true:=fun _=>id rfl
theorem gz17:∀x,okR zr139 zo139 (some ([.one (.l x)],[]))=true:=fun _=>id rfl
theorem gz18:∀x,asL (resC (some ([.one (.l x)],[])) 0 0)=x:=fun _=>id rfl
theorem koj (k:KS) (h:KI k) (r:RC):t110 k.t k.v k.si k.st k.sd k.es r.k r.t r.i r.v r.d=some ([.agg (kD (kdc k r).1),.one (.b (kdc k r).2)],[]):=by
 have h0:=h.h0;have h1:=h.h1;have h2:=h.h2
 simp only [t110,ta110,kli,gz15,gz7,ka]
 unfold kdc
 cases hr:kbc r
 ·simp only [bnf,bnt,Bool.or_true,bto,ka,if_true,Bool.false_and,bft,if_false]
  rfl
 ·simp only [kkj k h r hr,gz16,gz7,bnt,bnf,Bool.or_true,bto,Bool.false_or,bta,ka]
  cases hf:kpc k r
  ·simp only [bnf,if_true,bft,if_false]
   rfl
  ·simp only [bnt,bft,if_false,if_true]
   have hr':=hr
   simp only [kbc,Bool.or_eq_true,Bool.and_eq_true,decide_eq_true_eq] at hr'
   have hk:r.k=1∨r.k=2∨r.k=3∨r.k=4:=by omega
   rcases hk with hk | hk | hk | hk
   ·simp only [hk];rfl
   ·have g1:(r.k==1)=false:=by rw [hk];rfl
    have g2:(r.k==2)=true:=by rw [hk];rfl
    simp only [g1,g2,bft,if_false,if_true,kbj _ _ _ h2,ka,if_neg (show ¬ r.k=1 by omega),if_pos hk]
    rfl
   ·have g1:(r.k==1)=false:=by rw [hk];rfl
    have g2:(r.k==2)=false:=by rw [hk];rfl
    have g3:(r.k==3)=true:=by rw [hk];rfl
    have hf':k.si < r.i∧r.i≤k.si+(k.es.length:Int):=by simpa [kpc,hk] using hf
    have e1:w64 (w64 (r.i - k.si) - 1)=r.i - k.si - 1:=by rw [kb (r.i - k.si) (by omega),kb _ (by omega)]
    have e2:decide (0≤r.i - k.si - 1∧r.i - k.si - 1≤(k.es.length:Int))=true:=decide_eq_true (by omega)
    simp only [g1,g2,g3,bft,if_false,if_true,e1,e2,ka,if_neg (show ¬ r.k=1 by omega),if_neg (show ¬ r.k=2 by omega),if_pos hk]
    rfl
   ·have g1:(r.k==1)=false:=by rw [hk];rfl
    have g2:(r.k==2)=false:=by rw [hk];rfl
    have g3:(r.k==3)=false:=by rw [hk];rfl
    have hf':k.si < r.i∧r.t≤k.t:=by simpa [kpc,hk] using hf
    have eB:t139 k.t k.v k.si k.st k.sd k.es r.i r.t=some ([.one (.l (kbd k r.i r.t))],[]):=by
     have e1:w64 (r.i - k.si)=r.i - k.si:=kb _ (by omega)
     have e2:w64 (r.i - k.si - 1)=r.i - k.si - 1:=kb _ (by omega)
     have e3:decide (r.i - k.si ≥ 1)=true:=decide_eq_true (by omega)
     simp only [t139,e1,e2,e3,bta,kbd]
     by_cases hl:r.i - k.si≤(k.es.length:Int)
     ·have e4:decide (r.i - k.si≤(k.es.length:Int))=true:=decide_eq_true hl
      have e5:(decide (0≤r.i - k.si - 1)&&decide (r.i - k.si - 1 < (k.es.length:Int))&&isRow z116 (k.es.getD (r.i - k.si - 1).toNat []))=true:=by
       rw [decide_eq_true (by omega),decide_eq_true (by omega),krb h.h3 _ kfd _ (by omega)];rfl
      have e6:decide (0≤r.i - k.si∧r.i - k.si≤(k.es.length:Int)∧(k.es.getD 0 z116).length=z116.length)=true:=by
       refine decide_eq_true ⟨by omega,hl,?_⟩
       cases hes:k.es with
       | nil=>rfl
       | cons x xs =>
        have:=h.h3 x (by rw [hes];simp)
        obtain ⟨a,b,rfl,_⟩:=kyc this
        rfl
      have e7:((flatR 2 (k.es.drop (r.i - k.si).toNat))&&decide (([]:Rw).length+(k.es.drop (r.i - k.si).toNat).length≤lim))=true:=by
       rw [khk h,decide_eq_true (by unfold lim;simp;omega)];rfl
      simp only [e4,e5,e6,e7,bta,bto,ka,List.nil_append]
      by_cases ht:asI (nthD (k.es.getD (r.i - k.si - 1).toNat []) 0)=r.t
      ·rw [if_pos (by simpa using ht),if_pos ⟨hl,ht⟩]
      ·rw [if_neg (by simpa using ht),if_neg (fun x=>ht x.2)]
     ·have e4:decide (r.i - k.si≤(k.es.length:Int))=false:=decide_eq_false hl
      simp only [e4,bnf,Bool.or_true,ka,Bool.false_and,bft,if_false]
      rw [if_neg (fun x=>hl x.1)]
    simp only [g1,g2,g3,bft,if_false,eB,gz17,gz18,ka,if_neg (show ¬ r.k=1 by omega),if_neg (show ¬ r.k=2 by omega),if_neg (show ¬ r.k=3 by omega)]
    rfl
theorem gz19:∀x,okR zr169 zo169 (some ([.one (.b x)],[]))=true:=fun _=>id rfl
theorem gz20:∀x,okR zr170 zo170 (some ([.one (.b x)],[]))=true:=fun _=>id rfl
theorem knj (k:KS) (h:KI k) (r:RC):t150 k.t k.v k.si k.st k.sd k.es r.k r.t r.i r.v r.d=some ([.one (.b (kdc k r).2)],[kD (kdc k r).1]):=by
 have h0:=h.h0;have h1:=h.h1;have h2:=h.h2
 simp only [t150,ta150,kti,gz19,gz7,ka]
 unfold kdc
 cases hr:kbc r
 ·simp only [bnf,bnt,Bool.or_true,bto,ka,if_true,Bool.false_and,bft,if_false]
  rfl
 ·simp only [klj k h r hr,gz20,gz7,bnt,bnf,Bool.or_true,bto,Bool.false_or,bta,ka]
  cases hf:kpc k r
  ·simp only [bnf,if_true,bft,if_false]
   rfl
  ·simp only [bnt,bft,if_false,if_true]
   have hr':=hr
   simp only [kbc,Bool.or_eq_true,Bool.and_eq_true,decide_eq_true_eq] at hr'
   have hk:r.k=1∨r.k=2∨r.k=3∨r.k=4:=by omega
   rcases hk with hk | hk | hk | hk
   ·simp only [hk];rfl
   ·have g1:(r.k==1)=false:=by rw [hk];rfl
    have g2:(r.k==2)=true:=by rw [hk];rfl
    simp only [g1,g2,bft,if_false,if_true,kbj _ _ _ h2,ka,if_neg (show ¬ r.k=1 by omega),if_pos hk]
    rfl
   ·have g1:(r.k==1)=false:=by rw [hk];rfl
    have g2:(r.k==2)=false:=by rw [hk];rfl
    have g3:(r.k==3)=true:=by rw [hk];rfl
    have hf':k.si < r.i∧r.i≤k.si+(k.es.length:Int):=by simpa [kpc,hk] using hf
    have e1:w64 (w64 (r.i - k.si) - 1)=r.i - k.si - 1:=by rw [kb (r.i - k.si) (by omega),kb _ (by omega)]
    have e2:decide (0≤r.i - k.si - 1∧r.i - k.si - 1≤(k.es.length:Int)∧True)=true:=decide_eq_true ⟨by omega,by omega,trivial⟩
    simp only [g1,g2,g3,bft,if_false,if_true,e1,e2,ka,if_neg (show ¬ r.k=1 by omega),if_neg (show ¬ r.k=2 by omega),if_pos hk]
    rfl
   ·have g1:(r.k==1)=false:=by rw [hk];rfl
    have g2:(r.k==2)=false:=by rw [hk];rfl
    have g3:(r.k==3)=false:=by rw [hk];rfl
    have hf':k.si < r.i∧r.t≤k.t:=by simpa [kpc,hk] using hf
    have e1:w64 (r.i - k.si)=r.i - k.si:=kb _ (by omega)
    have e2:w64 (r.i - k.si - 1)=r.i - k.si - 1:=kb _ (by omega)
    simp only [g1,g2,g3,bft,if_false,e1,e2,if_neg (show ¬ r.k=1 by omega),if_neg (show ¬ r.k=2 by omega),if_neg (show ¬ r.k=3 by omega),kbd]
    by_cases hl:r.i - k.si≤(k.es.length:Int)
    ·have e4:decide (r.i - k.si≤(k.es.length:Int))=true:=decide_eq_true hl
     have e5:(decide (0≤r.i - k.si - 1)&&decide (r.i - k.si - 1 < (k.es.length:Int)))=true:=by
      rw [decide_eq_true (by omega),decide_eq_true (by omega)];rfl
     have e6:(decide (1≤(k.es.getD (r.i - k.si - 1).toNat []).length)&&isF z3 0 (k.es.getD (r.i - k.si - 1).toNat []))=true:=by
      obtain ⟨a,b,he,_⟩:=kyc (kqb h.h3 (i:=(r.i - k.si - 1).toNat) (by omega))
      rw [he];rfl
     have e8:decide (0≤r.i - k.si∧r.i - k.si≤(k.es.length:Int))=true:=decide_eq_true (by omega)
     have e7:((flatR 2 (k.es.drop (r.i - k.si).toNat))&&decide ((k.es.drop (r.i - k.si).toNat).length≤lim))=true:=by
      rw [khk h,decide_eq_true (by unfold lim;simp;omega)];rfl
     simp only [e4,e5,e6,e7,e8,bta,bto,ka]
     by_cases ht:asI (nthD (k.es.getD (r.i - k.si - 1).toNat []) 0)=r.t
     ·rw [if_pos (by simpa using ht),if_pos ⟨hl,ht⟩];rfl
     ·rw [if_neg (by simpa using ht),if_neg (fun x=>ht x.2)];rfl
    ·have e4:decide (r.i - k.si≤(k.es.length:Int))=false:=decide_eq_false hl
     simp only [e4,bnf,Bool.or_true,ka,Bool.false_and,bft,if_false]
     rw [if_neg (fun x=>hl x.1)];rfl
theorem kjf {l:Rw} (h:∀r∈l,typL ki r) (hl:l.length≤1048576):((flatR 2 l)&&decide (([]:Rw).length+l.length≤lim))=true∧((flatR 2 l)&&decide (l.length≤lim))=true:=by
 have e:decide (l.length≤lim)=true:=decide_eq_true (by unfold lim;omega)
 have e2:decide (([]:Rw).length+l.length≤lim)=true:=decide_eq_true (by unfold lim;simp;omega)
 rw [kuc h,e,e2];exact ⟨rfl,rfl⟩
theorem kmj (t v si st:Int) (sd:BA) (l:Rw) (h:∀r∈l,typL ki r) (hl:l.length≤1048576):t109 t v si st sd l=some ([.agg [.i .i64 t,.i .i64 v,.i .i64 si,.i .i64 st,.s sd,.l l]],[]):=by
 simp only [t109,(kjf h hl).1,ka,List.nil_append]
theorem kyd (t v si st:Int) (sd:BA) (l:Rw) (h:∀r∈l,typL ki r) (hl:l.length≤1048576):t129 t v si st sd l=some ([.agg [.i .i64 t,.i .i64 v,.i .i64 si,.i .i64 st,.s sd,.l l]],[]):=by
 simp only [t129,(kjf h hl).2,ka]
theorem kui (k:KS) (r:RC) (g:kbc r=false):kdc k r=(k,false):=by
 unfold kdc;rw [g];rfl
theorem KI.step' {k:KS} (h:KI k) (r:RC):KI (kdc k r).1:=by
 cases g:kbc r
 ·rw [kui k r g];exact h
 ·exact h.step r g
theorem kgi:∀r,typL kcc r→isRow z139 r=true:=fun r h=>by
 obtain ⟨a,b,c,d,e,rfl,_⟩:=kei h;rfl
def rcOf (r:List D):RC:=⟨asI (nthD r 0),asI (nthD r 1),asI (nthD r 2),asI (nthD r 3),asS (nthD r 4)⟩
def kvc (l:Rw):Nat→Nat→KS→Option KS
 | 0,_,k=>some k
 | c+1,i,k=>if (kdc k (rcOf (l.getD i []))).2 then kvc l c (i+1) (kdc k (rcOf (l.getD i []))).1 else none
def ktd (k:KS) (l:Rw):Option KS:=if kfc k.t k.v k.si k.st k.sd k.es&&decide (l.length≤80) then kvc l l.length 0 k else none
theorem gz21:∀t v si st sd l b,okR zr110 zo110 (some ([.agg [.i .i64 t,.i .i64 v,.i .i64 si,.i .i64 st,.s sd,.l l],.one (.b b)],[]))=true:=fun _ _ _ _ _ _ _=>id rfl
theorem kwi (n1 n2 n3 n4:Int) (s0:BA) (l1 l2:Rw) (n0:Int) (b0:Bool) (n5 n6 n7 n8:Int) (s2:BA) (l3 l0:Rw) (n9 n58 n59 n60:Int) (s3:BA)
  (q1:Int→Bool→Bool→Bool→Int→Int→Int→Int→BA→Int→Int→Int→Int→BA→Rw→Rs) (q2:Int→SV→Bool→SV→Int→Int→Int→Int→BA→Rw→Rs) (X:Rs) (F:KS→Rs)
  (h1:∀a b c d e f g h i j k l m n o,q1 a b c d e f g h i j k l m n o=X) (h2:∀a b c d (k:KS),q2 a b c d k.t k.v k.si k.st k.sd k.es=F k)
  (h:∀r∈l0,typL kcc r) (hl:l0.length≤1048576) (stop:Nat) (hs:stop≤l0.length) (hc:∀i:Nat,(decide ((i:Int) < n0)&&decide ((i:Int) < (l0.length:Int)))=decide (i < stop)):∀(c i m:Nat) (k:KS) (u v w:SV),KI k→i+c=stop→c < m →
  la82o0 t109 t110 n1 n2 n3 n4 s0 l1 l2 n0 b0 n5 n6 n7 n8 s2 l3 l0 n9 n58 n59 n60 s3 q1 q2 m i u v w k.t k.v k.si k.st k.sd k.es=(match kvc l0 c i k with | some K=>F K | none=>X):=by
 intro c
 induction c with
 | zero =>
  intro i m k u v w _ e hm
  obtain ⟨m,rfl⟩:∃m',m=m' + 1:=⟨m - 1,by omega⟩
  have ei:decide (i < stop)=false:=by simp;omega
  simp only [la82o0,hc,ei,bft,if_false,h2,kvc]
 | succ c ih =>
  intro i m k u v w hk e hm
  obtain ⟨m,rfl⟩:∃m',m=m' + 1:=⟨m - 1,by omega⟩
  have ei:decide (i < stop)=true:=by simp;omega
  have e1:=kyb (i:=i) (n:=l0.length) (by omega)
  have ez:=krb h _ kgi i (by omega)
  have s1:=koj k hk (rcOf (l0.getD i []))
  have hk2:=hk.step' (rcOf (l0.getD i []))
  have ih':=ih (i+1) m (kdc k (rcOf (l0.getD i []))).1
  rcases hr:kdc k (rcOf (l0.getD i [])) with ⟨⟨t,vv,si,st,sd,es⟩,b⟩
  rw [hr] at s1 hk2 ih'
  simp only [rcOf] at s1
  simp only [la82o0,hc,ei,if_true]
  simp only [e1,kxb,itn,ez,bat,ka,kvc,hr]
  simp only [kD] at s1 hk2 ih'
  simp only [s1,gz21,ka]
  simp only [resC,nthR,cellsDV,nthD,asI,asS,asL,asB]
  cases b
  ·simp only [bnf,if_true,h1,bft,if_false]
  ·simp only [bnt,bft,if_false,if_true]
   rw [kg i (by omega)]
   exact ih' _ _ _ hk2 (by omega) (by omega)
def kne (r:Option KS):Rs:=match r with
 | some K=>some ([.agg (kD K),.one (.b true)],[])
 | none=>some ([.agg [.i .i64 0,.i .i64 0,.i .i64 0,.i .i64 0,.s ⟨#[]⟩,.l []],.one (.b false)],[])
theorem gz22:∀t v si st sd l,okR zr109 zo109 (some ([.agg [.i .i64 t,.i .i64 v,.i .i64 si,.i .i64 st,.s sd,.l l]],[]))=true:=fun _ _ _ _ _ _=>id rfl
theorem kcj (k:KS) (l:Rw) (n:Int) (hk:KI k) (h:∀r∈l,typL kcc r) (hl:l.length≤1048576) (stop:Nat) (hs:stop≤l.length) (hn:(stop:Int)=if n≤0 then 0 else if n≤(l.length:Int) then n else (l.length:Int)) :
  t82 k.t k.v k.si k.st k.sd k.es l n=kne (kvc l stop 0 k):=by
 have hk2:=hk.h2
 simp only [t82,ta82,kmj k.t k.v k.si k.st k.sd k.es hk.h3 (by omega),gz22,ka,resC,nthR,cellsDV,nthD,asI,asS,asL]
 refine (kwi k.t k.v k.si k.st k.sd k.es l n false k.t k.v k.si k.st k.sd k.es l 0 0 0 0 ⟨#[]⟩ _ _ (kne none) (fun K=>kne (some K)) (fun _ _ _ _ _ _ _ _ _ _ _ _ _ _ _=>rfl) (fun _ _ _ _ _=>rfl) h hl stop hs (fun i=>?_) stop 0 KK k .undef .undef .undef hk (by omega) (by rw [kl];omega)).trans ?_
 ·rw [Bool.eq_iff_iff];simp only [Bool.and_eq_true,decide_eq_true_eq];split at hn
  ·omega
  ·split at hn<;>omega
 ·cases kvc l stop 0 k<;>rfl
theorem ktl (r:Option KS):okR zr82 zo82 (kne r)=true:=by cases r<;>rfl
theorem kml (r:Option KS):asB (resC (kne r) 1 0)=r.isSome:=by cases r<;>rfl
theorem gz23:∀x,okR zr81 zo81 (some ([.one (.b x)],[]))=true:=fun _=>id rfl
theorem kqg (k:KS) (l:Rw) (hek:∀r∈k.es,typL ki r) (hle:k.es.length≤1048576) (h:∀r∈l,typL kcc r) (hl:l.length≤1048576) :
  t47 k.t k.v k.si k.st k.sd k.es l=some ([.one (.b (ktd k l).isSome)],[]):=by
 simp only [t47,ta47,kjd k.t k.v k.si k.st k.sd k.es hle hek,gz23,gz7,ka]
 unfold ktd
 cases hb:kfc k.t k.v k.si k.st k.sd k.es
 ·simp
 ·have hk:KI k:=kog hek hb
  by_cases h80:l.length≤80
  ·have e1:decide ((l.length:Int) > 80)=false:=by simp;omega
   simp only [e1,bnt,Bool.or_self,bft,if_false,kcj k l (l.length:Int) hk h hl l.length (by omega) (by (repeat' split)<;>omega),ktl,kml,ka,h80,decide_true,Bool.and_self,if_true]
  ·have e1:decide ((l.length:Int) > 80)=true:=by simp;omega
   simp only [e1,Bool.or_true,if_true,h80,decide_false,Bool.and_false,bft,if_false,Option.isSome_none]
theorem gz24:∀t v si st sd l b,okR zr150 zo150 (some ([.one (.b b)],[[.i .i64 t,.i .i64 v,.i .i64 si,.i .i64 st,.s sd,.l l]]))=true:=fun _ _ _ _ _ _ _=>id rfl
theorem kyi (n0 n1 n2 n3:Int) (s0:BA) (l0 l1:Rw) (b0 b1:Bool) (n4 n5 n6 n7:Int) (s2:BA)
  (q1:Int→Bool→Bool→BA→Int→Int→Int→Int→BA→Int→Int→Int→Int→BA→Rw→Rs) (q2:Int→Bool→SV→Int→Int→Int→Int→BA→Rw→Rs) (X:Rs) (F:KS→Rs)
  (h1:∀a b c e f g h i j k l m n o,q1 a b c ⟨#[]⟩ e f g h i j k l m n o=X) (h2:∀a b c (k:KS),q2 a b c k.t k.v k.si k.st k.sd k.es=F k)
  (l:Rw) (h:∀r∈l,typL kcc r) (hl:l.length≤1048576):∀(c i m:Nat) (k:KS) (u v:SV),KI k→i+c=l.length→c < m →
  la121o1 t129 t130 t150 n0 n1 n2 n3 s0 l0 l1 b0 b1 l (l.length:Int) n4 n5 n6 n7 s2 q1 q2 m i u v k.t k.v k.si k.st k.sd k.es=(match kvc l c i k with | some K=>F K | none=>X):=by
 intro c
 induction c with
 | zero =>
  intro i m k u v _ e hm
  obtain ⟨m,rfl⟩:∃m',m=m' + 1:=⟨m - 1,by omega⟩
  have ei:decide ((i:Int) < (l.length:Int))=false:=by simp;omega
  simp only [la121o1,ei,bft,if_false,h2,kvc]
 | succ c ih =>
  intro i m k u v hk e hm
  obtain ⟨m,rfl⟩:∃m',m=m' + 1:=⟨m - 1,by omega⟩
  have e1:=kyb (i:=i) (n:=l.length) (by omega)
  have ez:=krb h _ kgi i (by omega)
  have s1:=knj k hk (rcOf (l.getD i []))
  have hk2:=hk.step' (rcOf (l.getD i []))
  have ih':=ih (i+1) m (kdc k (rcOf (l.getD i []))).1
  rcases hr:kdc k (rcOf (l.getD i [])) with ⟨⟨t,vv,si,st,sd,es⟩,b⟩
  rw [hr] at s1 hk2 ih'
  simp only [rcOf] at s1
  simp only [la121o1,e1,kxb,itn,ez,bat,ka,if_true,kvc,hr]
  simp only [kD] at s1 hk2 ih'
  simp only [s1,gz24,ka]
  simp only [resC,outC,nthR,nthO,cellsDV,nthD,asI,asS,asL,asB]
  cases b
  ·simp only [bnf,if_true,h1,bft,if_false]
  ·simp only [bnt,bft,if_false,if_true]
   rw [kg i (by omega)]
   exact ih' _ _ hk2 (by omega) (by omega)
def knd (r:Option KS):Rs:=match r with
 | some K=>some ([.agg (kD K),.one (.b true)],[])
 | none=>some ([.agg [.i .i64 0,.i .i64 0,.i .i64 0,.i .i64 0,.s ⟨#[]⟩,.l []],.one (.b false)],[])
theorem gz25:∀x,okR zr130 zo130 (some ([.one (.b x)],[]))=true:=fun _=>id rfl
theorem gz26:∀t v si st sd l,okR zr129 zo129 (some ([.agg [.i .i64 t,.i .i64 v,.i .i64 si,.i .i64 st,.s sd,.l l]],[]))=true:=fun _ _ _ _ _ _=>id rfl
theorem khj (k:KS) (l:Rw) (hek:∀r∈k.es,typL ki r) (hle:k.es.length≤1048576) (h:∀r∈l,typL kcc r) (hl:l.length≤1048576) :
  t121 k.t k.v k.si k.st k.sd k.es l=knd (ktd k l):=by
 simp only [t121,ta121,kkd k.t k.v k.si k.st k.sd k.es hle hek,gz25,gz7,ka]
 unfold ktd
 cases hb:kfc k.t k.v k.si k.st k.sd k.es
 ·simp only [bnf,bto,if_true,Bool.false_and,bft,if_false,knd]
 ·have hk:KI k:=kog hek hb
  by_cases h80:l.length≤80
  ·have e1:decide ((l.length:Int) > 80)=false:=by simp;omega
   simp only [e1,bnt,Bool.or_self,bft,if_false,h80,decide_true,Bool.and_self,if_true,kyd k.t k.v k.si k.st k.sd k.es hek hle,gz26,ka,resC,nthR,cellsDV,nthD,asI,asS,asL]
   refine (kyi k.t k.v k.si k.st k.sd k.es l false false 0 0 0 0 ⟨#[]⟩ _ _ (knd none) (fun K=>knd (some K)) (fun _ _ _ _ _ _ _ _ _ _ _ _ _ _=>rfl) (fun _ _ _ _=>rfl) l h hl l.length 0 KK k .undef .undef hk (by omega) (by rw [kl];omega)).trans ?_
   cases kvc l l.length 0 k<;>rfl
  ·have e1:decide ((l.length:Int) > 80)=true:=by simp;omega
   simp only [e1,Bool.or_true,if_true,h80,decide_false,Bool.and_false,bft,if_false,knd]
theorem kdm (r:Option KS):okR zr121 zo121 (knd r)=true:=by cases r<;>rfl
theorem kzl (r:Option KS):asB (resC (knd r) 1 0)=r.isSome:=by cases r<;>rfl
theorem kzg (k:KS) (l:Rw) (hek:∀r∈k.es,typL ki r) (hle:k.es.length≤1048576) (h:∀r∈l,typL kcc r) (hl:l.length≤1048576) :
  t92 k.t k.v k.si k.st k.sd k.es l=some ([.one (.b (ktd k l).isSome)],[]):=by
 simp only [t92,ta92,khj k l hek hle h hl,kdm,kzl,ka]
theorem kwg (x1 x2 x3 x4:Int) (x5:BA) (x6 x7:Rw) (w5:x5.size≤1048576) (w6:x6.length≤1048576) (t6:∀r∈x6,typL ki r) (s6:∀r∈x6,szdL ki r) (w7:x7.length≤1048576) (t7:∀r∈x7,typL kcc r) (s7:∀r∈x7,szdL kcc r) :
  ∃b,t47 x1 x2 x3 x4 x5 x6 x7=some ([.one (.b b)],[])∧t92 x1 x2 x3 x4 x5 x6 x7=some ([.one (.b b)],[])∧True :=
 ⟨_,kqg ⟨x1,x2,x3,x4,x5,x6⟩ x7 t6 w6 t7 w7,kzg ⟨x1,x2,x3,x4,x5,x6⟩ x7 t6 w6 t7 w7,trivial⟩
abbrev xI (l:Rw) (i:Nat):Int:=asI (nthD (l.getD i []) 0)
def kwb (l:Rw) (N:Int) (i:Nat):Bool:=decide (0≤xI l i∧xI l i≤w64 (N - 1))&&(decide (i=0)||decide (xI l (i - 1) < xI l i))
def kxc (nx mt:Rw) (La:Int) (i:Nat):Bool:=decide (0≤xI mt i∧xI mt i < xI nx i∧xI nx i≤w64 (La+1))
def noF (l:Rw) (x:Int) (i:Nat):Bool:=!(xI l i==x)
theorem ksd (n1 n2 n3 n4 n5 n6 n7 n8:Int) (l9:Rw) (n0:Int) (l0 l1 l2:Rw):t83 n1 n2 n3 n4 n5 n6 n7 n8 l9 n0 l0 l1 l2=some ([.one (.i .i64 (w64 (n7+(l9.length:Int))))],[]):=rfl
theorem kgd (n1 n2 n3 n4 n5 n6 n7 n8:Int) (l9:Rw) (n0:Int) (l0 l1 l2:Rw):t151 n1 n2 n3 n4 n5 n6 n7 n8 l9 n0 l0 l1 l2=some ([.one (.i .i64 (w64 (n7+(l9.length:Int))))],[]):=rfl
theorem kci (i:Nat) (h:0 < i) (hi:i < 4611686018427387904):w64 ((i:Int) - 1)=((i - 1:Nat):Int):=by
 rw [kb _ (by omega)];omega
theorem kii (n0 n1 n2 n3 n4 n5 n6 n7:Int) (l0:Rw) (n8:Int) (l1 l2 l3:Rw) (b0 b1:Bool) (n9:Int) (b2 b3:Bool) (n68 N n70 n71 n72 n73 n74 n75:Int) (l4:Rw) (n77:Int) (l5 l6 l7:Rw) (q1:Int→Bool→Bool→Rs) (q2:Int→Bool→SV→Rs) (g:Bool) (h1:∀a b c,q1 a b c=some ([.one (.b false)],[])) (h2:∀a b c,q2 a b c=some ([.one (.b g)],[])) (l:Rw) (h:∀r∈l,typL kr r) (hl:l.length < 4611686018427387904):∀(k i m:Nat) (v w:SV),i+k=l.length→k < m →
  la49o3 t34 t54 t81 t83 t84 n0 n1 n2 n3 n4 n5 n6 n7 l0 n8 l1 l2 l3 b0 b1 n9 b2 b3 n68 N n70 n71 n72 n73 n74 n75 l4 n77 l l5 l6 l7 q1 q2 m i v w=some ([.one (.b (allB (kwb l N) k i&&g))],[]):=by
 intro k
 induction k with
 | zero =>
  intro i m v w e hm
  obtain ⟨m,rfl⟩:∃m',m=m' + 1:=⟨m - 1,by omega⟩
  have ei:decide ((i:Int) < (l.length:Int))=false:=by simp;omega
  simp only [la49o3,ei,h2,allB,bta]
  simp
 | succ k ih =>
  intro i m v w e hm
  obtain ⟨m,rfl⟩:∃m',m=m' + 1:=⟨m - 1,by omega⟩
  have e1:=kyb (i:=i) (n:=l.length) (by omega)
  have ez:=krb h _ kac i (by omega)
  have hw:=kg i (by omega)
  by_cases hi:i=0
  ·subst hi
   have a1:decide (((0:Nat):Int) > 0)=false:=rfl
   simp only [la49o3,e1,kxb,itn,ez,kad,gz8,gz7,a1,Bool.and_false,Bool.false_and,bnf,Bool.or_true,Bool.or_false,bat,ka,if_true,hw]
   have hs:kwb l N 0=(decide (0≤xI l 0)&&decide (xI l 0≤w64 (N - 1))):=by unfold kwb;simp
   rw [kwc _ (kwb l N 0) (by rw [hs])]
   simp only [allB]
   cases hb:kwb l N 0
   ·simp [h1]
   ·simp only [if_true,bta]
    exact ih 1 m _ _ (by omega) (by omega)
  ·have a1:decide ((i:Int) > 0)=true:=by simp;omega
   have a2:=kci i (by omega) (by omega)
   have e1':=kyb (i:=i - 1) (n:=l.length) (by omega)
   have ez':=krb h _ kac (i - 1) (by omega)
   simp only [la49o3,e1,kxb,itn,ez,kad,gz8,gz7,a1,a2,e1',ez',bto,bat,bta,ka,if_true,hw]
   rw [kwc _ (kwb l N i) (by
    unfold kwb xI
    rw [Bool.eq_iff_iff];simp [hi]<;>try omega)]
   simp only [allB]
   cases hb:kwb l N i
   ·simp [h1]
   ·simp only [if_true,bta]
    exact ih (i+1) m _ _ (by omega) (by omega)
theorem khi (n0 N n1 n2 n3 n4 n5 n6:Int) (l0:Rw) (n7:Int) (l1 l2:Rw) (b0:Bool) (q1:Int→Int→Bool→Bool→Rs) (q2:SV→SV→Int→Bool→SV→Rs) (g:Bool) (h1:∀a b c d,q1 a b c d=some ([.one (.b false)],[])) (h2:∀a b c d e,q2 a b c d e=some ([.one (.b g)],[])) (l:Rw) (h:∀r∈l,typL kr r) (hl:l.length < 4611686018427387904):∀(k i m:Nat) (u1 u2 v w:SV),i+k=l.length→k < m →
  la152o0 t18 t171 t172 n0 N n1 n2 n3 n4 n5 n6 l0 n7 l l1 l2 b0 l (l.length:Int) q1 q2 m u1 u2 i v w=some ([.one (.b (allB (kwb l N) k i&&g))],[]):=by
 intro k
 induction k with
 | zero =>
  intro i m u1 u2 v w e hm
  obtain ⟨m,rfl⟩:∃m',m=m' + 1:=⟨m - 1,by omega⟩
  have ei:decide ((i:Int) < (l.length:Int))=false:=by simp;omega
  simp only [la152o0,ei,h2,allB,bta]
  simp
 | succ k ih =>
  intro i m u1 u2 v w e hm
  obtain ⟨m,rfl⟩:∃m',m=m' + 1:=⟨m - 1,by omega⟩
  have e1:=kyb (i:=i) (n:=l.length) (by omega)
  have ez:=krb h _ kac i (by omega)
  have hw:=kg i (by omega)
  by_cases hi:i=0
  ·subst hi
   have a1:decide (((0:Nat):Int) > 0)=false:=rfl
   simp only [la152o0,e1,kxb,itn,ez,kvb,gz6,gz7,a1,Bool.and_false,Bool.false_and,bnf,Bool.or_true,Bool.or_false,bat,ka,if_true,hw]
   have hs:kwb l N 0=(decide (0≤xI l 0)&&decide (xI l 0≤w64 (N - 1))):=by unfold kwb;simp
   rw [kwc _ (kwb l N 0) (by rw [hs])]
   simp only [allB]
   cases hb:kwb l N 0
   ·simp [h1]
   ·simp only [if_true,bta]
    exact ih 1 m _ _ _ _ (by omega) (by omega)
  ·have a1:decide ((i:Int) > 0)=true:=by simp;omega
   have a2:=kci i (by omega) (by omega)
   have e1':=kyb (i:=i - 1) (n:=l.length) (by omega)
   have ez':=krb h _ kac (i - 1) (by omega)
   simp only [la152o0,e1,kxb,itn,ez,kvb,gz6,gz7,a1,a2,e1',ez',bto,bat,bta,ka,if_true,hw]
   rw [kwc _ (kwb l N i) (by
    unfold kwb xI
    rw [Bool.eq_iff_iff];simp [hi]<;>try omega)]
   simp only [allB]
   cases hb:kwb l N i
   ·simp [h1]
   ·simp only [if_true,bta]
    exact ih (i+1) m _ _ _ _ (by omega) (by omega)
theorem gz27:∀x,okR zr83 zo83 (some ([.one (.i .i64 x)],[]))=true:=fun _=>id rfl
theorem kzi (n1 n2 n3 n4 n5 n6 n7 n8:Int) (l1:Rw) (n9:Int) (l2 l3 l4:Rw) (b0 b1:Bool) (n10:Int) (b2 b3 b4 b5:Bool) (n11 n12 n13 n14 n15 n0 n16:Int) (l0:Rw) (n17:Int) (l5 l6:Rw) (q1:Int→Bool→Bool→Rs) (q2:Int→Bool→SV→Rs) (g:Bool) (h1:∀a b c,q1 a b c=some ([.one (.b false)],[])) (h2:∀a b c,q2 a b c=some ([.one (.b g)],[])) (nx l:Rw) (hx:∀r∈nx,typL kr r) (h:∀r∈l,typL kr r) (hn:nx.length=l.length) (hl:l.length < 4611686018427387904):∀(k i m:Nat) (v w:SV),i+k=l.length→k < m →
  la49o8 t34 t54 t81 t83 t84 n1 n2 n3 n4 n5 n6 n7 n8 l1 n9 l2 l3 l4 b0 b1 n10 b2 b3 b4 b5 n11 (l.length:Int) n12 n13 n14 n15 n0 n16 l0 n17 l5 nx l l6 q1 q2 m i v w=some ([.one (.b (allB (kxc nx l (w64 (n0+(l0.length:Int)))) k i&&g))],[]):=by
 intro k
 induction k with
 | zero =>
  intro i m v w e hm
  obtain ⟨m,rfl⟩:∃m',m=m' + 1:=⟨m - 1,by omega⟩
  have ei:decide ((i:Int) < (l.length:Int))=false:=by simp;omega
  simp only [la49o8,ei,h2,allB,bta]
  simp
 | succ k ih =>
  intro i m v w e hm
  obtain ⟨m,rfl⟩:∃m',m=m' + 1:=⟨m - 1,by omega⟩
  have e1:=kyb (i:=i) (n:=l.length) (by omega)
  have ez:=krb h _ kac i (by omega)
  have e1':=kyb (i:=i) (n:=nx.length) (by omega)
  have ez':=krb hx _ kac i (by omega)
  have hw:=kg i (by omega)
  simp only [la49o8,e1,e1',kxb,itn,ez,ez',ksd,gz27,gz11,bto,bat,ka,if_true,hw]
  rw [kwc _ (kxc nx l (w64 (n0+(l0.length:Int))) i) (by
   unfold kxc xI
   rw [Bool.eq_iff_iff];simp;omega)]
  simp only [allB]
  cases hb:kxc nx l (w64 (n0+(l0.length:Int))) i
  ·simp [h1]
  ·simp only [if_true,bta]
   exact ih (i+1) m _ _ (by omega) (by omega)
theorem gz28:∀x,okR zr151 zo151 (some ([.one (.i .i64 x)],[]))=true:=fun _=>id rfl
theorem kvi (n1 n2 n3 n4 n5 n6 n0 n7:Int) (l0:Rw) (n8:Int) (l1 l2:Rw) (b0 b1:Bool) (q1:Int→Int→Bool→Bool→Rs) (q2:SV→SV→Int→Bool→SV→Rs) (g:Bool) (h1:∀a b c d,q1 a b c d=some ([.one (.b false)],[])) (h2:∀a b c d e,q2 a b c d e=some ([.one (.b g)],[])) (nx l:Rw) (hx:∀r∈nx,typL kr r) (h:∀r∈l,typL kr r) (hn:nx.length=l.length) (hl:l.length < 4611686018427387904):∀(k i m:Nat) (u1 u2 v w:SV),i+k=l.length→k < m →
  la153o1 t151 n1 n2 n3 n4 n5 n6 n0 n7 l0 n8 l1 nx l2 b0 b1 l (l.length:Int) q1 q2 m u1 u2 i v w=some ([.one (.b (allB (kxc nx l (w64 (n0+(l0.length:Int)))) k i&&g))],[]):=by
 intro k
 induction k with
 | zero =>
  intro i m u1 u2 v w e hm
  obtain ⟨m,rfl⟩:∃m',m=m' + 1:=⟨m - 1,by omega⟩
  have ei:decide ((i:Int) < (l.length:Int))=false:=by simp;omega
  simp only [la153o1,ei,h2,allB,bta]
  simp
 | succ k ih =>
  intro i m u1 u2 v w e hm
  obtain ⟨m,rfl⟩:∃m',m=m' + 1:=⟨m - 1,by omega⟩
  have e1:=kyb (i:=i) (n:=l.length) (by omega)
  have ez:=krb h _ kac i (by omega)
  have e1':=kyb (i:=i) (n:=nx.length) (by omega)
  have ez':=krb hx _ kac i (by omega)
  have hw:=kg i (by omega)
  simp only [la153o1,e1,e1',kxb,itn,ez,ez',kgd,gz28,gz11,bto,bat,ka,if_true,hw]
  rw [kwc _ (kxc nx l (w64 (n0+(l0.length:Int))) i) (by
   unfold kxc xI
   rw [Bool.eq_iff_iff];simp;omega)]
  simp only [allB]
  cases hb:kxc nx l (w64 (n0+(l0.length:Int))) i
  ·simp [h1]
  ·simp only [if_true,bta]
   exact ih (i+1) m _ _ _ _ (by omega) (by omega)
theorem kzk (x:Int) (b:Bool) (q1:Int→Bool→Bool→Rs) (q2:Int→Bool→SV→Rs) (h1:∀a b c,q1 a b c=some ([.one (.b true)],[])) (h2:∀a b c,q2 a b c=some ([.one (.b false)],[])) (l:Rw) (h:∀r∈l,typL kr r) (hl:l.length < 4611686018427387904):∀(k i m:Nat) (v w:SV),i+k=l.length→k < m →
  l84o0 l x b q1 q2 m i v w=some ([.one (.b (!(allB (noF l x) k i)))],[]):=by
 intro k
 induction k with
 | zero =>
  intro i m v w e hm
  obtain ⟨m,rfl⟩:∃m',m=m' + 1:=⟨m - 1,by omega⟩
  have ei:decide ((i:Int) < (l.length:Int))=false:=by simp;omega
  simp only [l84o0,ei,h2,allB]
  simp
 | succ k ih =>
  intro i m v w e hm
  obtain ⟨m,rfl⟩:∃m',m=m' + 1:=⟨m - 1,by omega⟩
  have e1:=kyb (i:=i) (n:=l.length) (by omega)
  have ez:=krb h _ kac i (by omega)
  have hw:=kg i (by omega)
  simp only [l84o0,e1,kxb,itn,ez,bat,ka,if_true,hw,allB]
  cases hb:noF l x i
  ·have:(asI (nthD (l.getD i []) 0)==x)=true:=by unfold noF at hb;simpa only [Bool.not_eq_false'] using hb
   simp only [this,if_true,h1,Bool.false_and,bnf]
  ·have:(asI (nthD (l.getD i []) 0)==x)=false:=by unfold noF at hb;simpa only [Bool.not_eq_true'] using hb
   simp only [this,bft,if_false,bta]
   exact ih (i+1) m _ _ (by omega) (by omega)
theorem kyk (l:Rw) (hl:l.length≤1048576) (h:∀r∈l,typL kr r) (x:Int):t84 l x=some ([.one (.b (!(allB (noF l x) l.length 0)))],[]) :=
 kzk x false (fun _ _ _=>some ([.one (.b true)],[])) (fun _ _ _=>some ([.one (.b false)],[])) (fun _ _ _=>rfl) (fun _ _ _=>rfl) l h (by omega) l.length 0 KK .undef .undef (by omega) (by rw [kl];omega)
theorem kel (x n0:Int) (q1:Int→Bool→Bool→Rs) (q2:SV→Int→Bool→SV→Rs) (h1:∀a b c,q1 a b c=some ([.one (.i .i64 a)],[])) (h2:∀a b c d,q2 a b c d=some ([.one (.i .i64 (-1))],[])) (l:Rw) (h:∀r∈l,typL kr r) (hl:l.length < 4611686018427387904):∀(k i m:Nat) (u v w:SV),i+k=l.length→k < m →
  ∃y:Int,l184o0 l x n0 (l.length:Int) q1 q2 m u i v w=some ([.one (.i .i64 y)],[])∧decide (y ≥ 0)=!(allB (noF l x) k i):=by
 intro k
 induction k with
 | zero =>
  intro i m u v w e hm
  obtain ⟨m,rfl⟩:∃m',m=m' + 1:=⟨m - 1,by omega⟩
  have ei:decide ((i:Int) < (l.length:Int))=false:=by simp;omega
  exact ⟨-1,by simp only [l184o0,ei,h2,bft,if_false],rfl⟩
 | succ k ih =>
  intro i m u v w e hm
  obtain ⟨m,rfl⟩:∃m',m=m' + 1:=⟨m - 1,by omega⟩
  have e1:=kyb (i:=i) (n:=l.length) (by omega)
  have ez:=krb h _ kac i (by omega)
  have hw:=kg i (by omega)
  simp only [l184o0,e1,kxb,itn,ez,bat,ka,if_true,hw,allB]
  cases hb:noF l x i
  ·have:(x==asI (nthD (l.getD i []) 0))=true:=by
    unfold noF at hb
    have h':asI (nthD (l.getD i []) 0)=x:=by simpa only [Bool.not_eq_false',beq_iff_eq] using hb
    rw [h'];exact beq_self_eq_true x
   exact ⟨i,by simp only [this,if_true,h1],by simp only [Bool.false_and,bnf];exact decide_eq_true (by omega)⟩
  ·have:(x==asI (nthD (l.getD i []) 0))=false:=by
    unfold noF at hb
    have h':¬ asI (nthD (l.getD i []) 0)=x:=by simpa only [Bool.not_eq_true',beq_eq_false_iff_ne,ne_eq] using hb
    rw [beq_eq_false_iff_ne];exact fun e=>h' e.symm
   simp only [this,bft,if_false,bta]
   exact ih (i+1) m _ _ _ (by omega) (by omega)
theorem kik (l:Rw) (hl:l.length≤1048576) (h:∀r∈l,typL kr r) (x:Int):t171 l x=some ([.one (.b (!(allB (noF l x) l.length 0)))],[]):=by
 obtain ⟨y,hy,hd⟩:=kel x 0 (fun a _ _=>some ([.one (.i .i64 a)],[])) (fun _ _ _ _=>some ([.one (.i .i64 (-1))],[])) (fun _ _ _=>rfl) (fun _ _ _ _=>rfl) l h (by omega) l.length 0 KK .undef .undef .undef (by omega) (by rw [kl];omega)
 have hy':t184 l x=some ([.one (.i .i64 y)],[]):=hy
 have ew:okR zr184 zo184 (some ([.one (.i .i64 y)],[]))=true:=rfl
 have eb:asI (resC (some ([.one (.i .i64 y)],[])) 0 0)=y:=rfl
 simp only [t171,ta171,hy',ew,eb,ka,hd]
def kke (n1 n2 n3 n4 n5 n6 n7:Int) (l9 l11 l12 l13:Rw):Bool :=
 if n5=1 then decide (-1≤n6∧n6≤n2 - 1∧n6≠n1∧l11.length=0∧l12.length=0∧l13.length=0)
 else if n5=2 then allB (kwb l11 n2) l11.length 0&&(decide (n3 ≥ 1∧n4=n1∧n6=-1∧2 * (l11.length:Int)≤n2∧l12.length=0∧l13.length=0)&&!(allB (noF l11 n1) l11.length 0))
 else if n5=3 then decide (n3 ≥ 1∧n4=n1∧n6=n1∧l11.length=0∧(l12.length:Int)=n2∧(l13.length:Int)=n2)&&(decide (xI l13 n1.toNat=w64 (n7+(l9.length:Int)))&&allB (kxc l12 l13 (w64 (n7+(l9.length:Int)))) l13.length 0)
 else false
def kvd (n1 n2 n3 n4 n5 n6 n7 n8:Int) (l9:Rw) (n10:Int) (l11 l12 l13:Rw):Bool :=
 decide (1≤n2∧n2≤5∧0≤n1∧n1≤n2 - 1∧¬ (n7=0∧n8≠0))&&(kfc n3 n4 n7 n8 ⟨#[]⟩ l9&&(decide (n4 < n2∧n7≤n10∧n10≤w64 (n7+(l9.length:Int)))&&kke n1 n2 n3 n4 n5 n6 n7 l9 l11 l12 l13))
theorem kmf (n1 n2 n3 n4 n5 n6 n7 n8:Int) (l9:Rw) (n0:Int) (l0 l1 l2:Rw) (h7:¬ (n7=0∧n8≠0)) (hl:l9.length≤1048576) (h:∀r∈l9,typL ki r):t54 n1 n2 n3 n4 n5 n6 n7 n8 l9 n0 l0 l1 l2 ⟨#[]⟩=some ([.agg [.i .i64 n3,.i .i64 n4,.i .i64 n7,.i .i64 n8,.s ⟨#[]⟩,.l l9]],[]):=by
 unfold t54
 rw [kme (by rw [kuc h];simp only [bta];exact decide_eq_true (by simp only [List.length_nil];unfold lim;omega))]
 by_cases g:n7=0
 ·have:n8=0:=by omega
  subst g;subst this;rfl
 ·have:(n7 != 0)=true:=by simpa using g
  simp only [this,if_true,List.nil_append]
theorem kxf (n1 n2 n3 n4 n5 n6 n7 n8:Int) (l9:Rw) (n0:Int) (l0 l1 l2:Rw) (h7:¬ (n7=0∧n8≠0)) (hl:l9.length≤1048576) (h:∀r∈l9,typL ki r):t125 n1 n2 n3 n4 n5 n6 n7 n8 l9 n0 l0 l1 l2 ⟨#[]⟩=some ([.agg [.i .i64 n3,.i .i64 n4,.i .i64 n7,.i .i64 n8,.s ⟨#[]⟩,.l l9]],[]):=by
 unfold t125
 rw [kme (by rw [kuc h];simp only [bta];exact decide_eq_true (by unfold lim;omega))]
 by_cases g:n7=0
 ·have:n8=0:=by omega
  subst g;subst this;rfl
 ·have:(n7 != 0)=true:=by simpa using g
  simp only [this,if_true]
theorem gz29:∀x,okR zr84 zo84 (some ([.one (.b x)],[]))=true:=fun _=>id rfl
theorem kej (n1 n2 n3 n4 n5 n6 n7 n8:Int) (l9:Rw) (n0:Int) (l0 l2 l1:Rw) (hl:l9.length≤1048576) (h:∀r∈l9,typL ki r) (hl1:l0.length≤1048576) (h1:∀r∈l0,typL kr r) (hl2:l2.length≤1048576) (h2:∀r∈l2,typL kr r) (hl3:l1.length≤1048576) (h3:∀r∈l1,typL kr r) :
  t49 n1 n2 n3 n4 n5 n6 n7 n8 l9 n0 l0 l2 l1=some ([.one (.b (kvd n1 n2 n3 n4 n5 n6 n7 n8 l9 n0 l0 l2 l1))],[]):=by
 have ew4:okR zr54 zo54 (some ([.agg [.i .i64 n3,.i .i64 n4,.i .i64 n7,.i .i64 n8,.s ⟨#[]⟩,.l l9]],[]))=true:=rfl
 have r0:asI (resC (some ([.agg [.i .i64 n3,.i .i64 n4,.i .i64 n7,.i .i64 n8,.s ⟨#[]⟩,.l l9]],[])) 0 0)=n3:=rfl
 have r1:asI (resC (some ([.agg [.i .i64 n3,.i .i64 n4,.i .i64 n7,.i .i64 n8,.s ⟨#[]⟩,.l l9]],[])) 0 1)=n4:=rfl
 have r2:asI (resC (some ([.agg [.i .i64 n3,.i .i64 n4,.i .i64 n7,.i .i64 n8,.s ⟨#[]⟩,.l l9]],[])) 0 2)=n7:=rfl
 have r3:asI (resC (some ([.agg [.i .i64 n3,.i .i64 n4,.i .i64 n7,.i .i64 n8,.s ⟨#[]⟩,.l l9]],[])) 0 3)=n8:=rfl
 have r4:asS (resC (some ([.agg [.i .i64 n3,.i .i64 n4,.i .i64 n7,.i .i64 n8,.s ⟨#[]⟩,.l l9]],[])) 0 4)=⟨#[]⟩:=rfl
 have r5:asL (resC (some ([.agg [.i .i64 n3,.i .i64 n4,.i .i64 n7,.i .i64 n8,.s ⟨#[]⟩,.l l9]],[])) 0 5)=l9:=rfl
 have ey:((!(decide (1≤n2)&&decide (n2≤5))||!(decide (0≤n1)&&decide (n1≤w64 (n2 - 1))))||((n7==0)&&(n8 != 0)))=!decide (1≤n2∧n2≤5∧0≤n1∧n1≤n2 - 1∧¬ (n7=0∧n8≠0)):=by
  by_cases hn:1≤n2∧n2≤5
  ·rw [kb (n2 - 1) (by omega),Bool.eq_iff_iff];simp;omega
  ·rw [Bool.eq_iff_iff];simp;omega
 unfold kvd
 by_cases hP:1≤n2∧n2≤5∧0≤n1∧n1≤n2 - 1∧¬ (n7=0∧n8≠0)
 ·rw [decide_eq_true hP] at ey ⊢
  have hk:=kmf n1 n2 n3 n4 n5 n6 n7 n8 l9 n0 l0 l2 l1 hP.2.2.2.2 hl h
  simp only [t49,ta49,kad,gz8,gz27,gz23,gz29,gz7,gz11,ey,bto,ka,hk,ew4,r0,r1,r2,r3,r4,r5,kjd _ _ _ _ _ l9 hl h,ksd,kyk l0 hl1 h1,bnt,bnf,if_true,Bool.false_or,bta]
  generalize kfc n3 n4 n7 n8 ⟨#[]⟩ l9=K
  cases K
  ·simp only [bnf,bto,if_true,Bool.false_and]
  simp only [bnt,Bool.false_or,bta]
  have eq:(decide (n4 ≥ n2)||!(decide (n7≤n0)&&decide (n0≤w64 (n7+(l9.length:Int)))))=!decide (n4 < n2∧n7≤n0∧n0≤w64 (n7+(l9.length:Int))):=by
   rw [Bool.eq_iff_iff];simp<;>try omega
  by_cases hQ:n4 < n2∧n7≤n0∧n0≤w64 (n7+(l9.length:Int))
  rotate_left
  ·rw [decide_eq_false hQ] at eq ⊢
   simp only [eq,bnf,if_true,Bool.false_and]
  rw [decide_eq_true hQ] at eq ⊢
  simp only [eq,bnt,bft,if_false,bta]
  unfold kke
  by_cases k1:n5=1
  ·subst k1
   simp only [show ((1:Int)==1)=true from rfl,if_true]
   apply kub
   rw [kb (n2 - 1) (by omega),Bool.eq_iff_iff]
   simp [-List.length_eq_zero_iff];omega
  have j1:(n5==1)=false:=by simpa using k1
  by_cases k2:n5=2
  ·subst k2
   simp only [j1,k1,show ((2:Int)==2)=true from rfl,bft,if_false,if_true]
   refine Eq.trans (kii _ _ _ _ _ _ _ _ _ _ _ _ _ _ _ _ _ _ _ n2 _ _ _ _ _ _ _ _ _ _ _ (fun n9 b0 b1=>some ([.one (.b false)],[])) (fun n11 b2 v0=>some ([.one (.b (decide (n3 ≥ 1)&&n4==n1&&n6==-1&&!allB (noF l0 n1) l0.length 0&&decide (w64 (2 * (l0.length:Int))≤n2)&&(l2.length:Int)==0&&(l1.length:Int)==0))],[])) _ (fun _ _ _=>rfl) (fun _ _ _=>rfl) l0 h1 (by omega) l0.length 0 KK .undef .undef (by omega) (by rw [kl];omega)) ?_
   apply kub
   generalize allB (kwb l0 n2) l0.length 0=r1
   generalize allB (noF l0 n1) l0.length 0=r2
   rw [kb (2 * (l0.length:Int)) (by omega)]
   cases r1<;>cases r2<;>(rw [Bool.eq_iff_iff];simp [-List.length_eq_zero_iff]<;>try omega)
  have j2:(n5==2)=false:=by simpa using k2
  by_cases k3:n5=3
  rotate_left
  ·have j3:(n5==3)=false:=by simpa using k3
   simp only [j1,k1,j2,k2,j3,k3,bft,if_false]
  subst k3
  simp only [j1,k1,j2,k2,show ((3:Int)==3)=true from rfl,bft,if_false,if_true]
  have ez:((((((decide (n3 < 1)||(n4 != n1))||(n6 != n1))||decide ((l0.length:Int) > 0))||((l2.length:Int) != n2))||((l1.length:Int) != n2)))=!decide (n3 ≥ 1∧n4=n1∧n6=n1∧l0.length=0∧(l2.length:Int)=n2∧(l1.length:Int)=n2):=by
   rw [Bool.eq_iff_iff];simp [-List.length_eq_zero_iff];omega
  by_cases hR:n3 ≥ 1∧n4=n1∧n6=n1∧l0.length=0∧(l2.length:Int)=n2∧(l1.length:Int)=n2
  rotate_left
  ·rw [decide_eq_false hR] at ez ⊢
   simp only [ez,bnf,bnt,Bool.or_true,bto,ka,if_true,Bool.false_and]
  rw [decide_eq_true hR] at ez ⊢
  have hn1:n1.toNat < l1.length:=by omega
  have c1:(decide (0≤n1)&&decide (n1 < (l1.length:Int)))=true:=by simp;omega
  have c2:=krb h3 _ kac n1.toNat hn1
  simp only [ez,c1,c2,bnt,bnf,Bool.false_or,bto,bat,bta,ka]
  by_cases hm:xI l1 n1.toNat=w64 (n7+(l9.length:Int))
  ·have c3:(asI (nthD (l1.getD n1.toNat []) 0) != w64 (n7+(l9.length:Int)))=false:=by simp only [bne_eq_false_iff_eq];exact hm
   simp only [c3,bft,if_false,decide_eq_true hm,bta]
   have key:=kzi n1 n2 n3 n4 3 n6 n7 n8 l9 n0 l0 l2 l1 false false 3 (3==1) (3==2) true false n1 n3 n4 3 n6 n7 n8 l9 n0 l0 l9 (fun n9 b0 b1=>some ([.one (.b false)],[])) (fun n12 b3 v1=>some ([.one (.b true)],[])) true (fun _ _ _=>rfl) (fun _ _ _=>rfl) l2 l1 h2 h3 (by omega) (by omega) l1.length 0 KK .undef .undef (by omega) (by rw [kl];omega)
   rw [hR.2.2.2.2.2] at key
   refine Eq.trans key ?_
   simp only [bat]
  ·have c3:(asI (nthD (l1.getD n1.toNat []) 0) != w64 (n7+(l9.length:Int)))=true:=by simp only [bne_iff_ne];exact hm
   simp only [c3,if_true,decide_eq_false hm,Bool.false_and]
 ·rw [decide_eq_false hP] at ey ⊢
  simp only [t49,ta49,kad,gz8,gz27,gz7,gz11,ey,bto,ka,ksd,bnt,bnf,bft,if_false,Bool.false_and]
theorem kuj {t v si st:Int} {ss:BA} {l:Rw} (h:kfc t v si st ss l=true):0≤si:=by
 unfold kfc kpd kcd at h
 simp only [Bool.and_eq_true,decide_eq_true_eq] at h
 omega
theorem kpj (n1 n2 n3 n4 n5 n6 n7 n8:Int) (l9:Rw) (n0:Int) (l0 l1 l2:Rw):kvd n1 n2 n3 n4 n5 n6 n7 n8 l9 n0 l0 l1 l2 =
  (decide (1≤n2∧n2≤5∧0≤n1∧n1≤n2 - 1∧n4 < n2∧0≤n7∧¬ (n7=0∧n8≠0))&&(kfc n3 n4 n7 n8 ⟨#[]⟩ l9&&(decide (n7≤n0∧n0≤w64 (n7+(l9.length:Int)))&&kke n1 n2 n3 n4 n5 n6 n7 l9 l0 l1 l2))):=by
 unfold kvd
 cases hk:kfc n3 n4 n7 n8 ⟨#[]⟩ l9
 ·simp
 ·have:=kuj hk
  generalize kke n1 n2 n3 n4 n5 n6 n7 l9 l0 l1 l2=r
  rw [Bool.eq_iff_iff]
  cases r
  ·simp
  ·simp;omega
theorem kcl (n1 n2 n3 n4 n5 n6 n7 n8:Int) (l9:Rw) (n0:Int) (l0 l1 l2:Rw) (n:Int):t172 n1 n2 n3 n4 n5 n6 n7 n8 l9 n0 l0 l1 l2 n=some ([.one (.b (decide (w64 (2 * n) > n2)))],[]):=rfl
theorem gz30:∀x,okR zr171 zo171 (some ([.one (.b x)],[]))=true:=fun _=>id rfl
theorem gz31:∀x,okR zr172 zo172 (some ([.one (.b x)],[]))=true:=fun _=>id rfl
theorem kij (n1 n2 n3 n4 n5 n6 n7 n8:Int) (l9:Rw) (n0:Int) (l0 l1 l2:Rw) (hl1:l0.length≤1048576) (h1:∀r∈l0,typL kr r) (hl2:l1.length≤1048576) (hl3:l2.length≤1048576) :
  t152 n1 n2 n3 n4 n5 n6 n7 n8 l9 n0 l0 l1 l2=some ([.one (.b (allB (kwb l0 n2) l0.length 0&&(decide (n3 ≥ 1∧n4=n1∧n6=-1∧2 * (l0.length:Int)≤n2∧l1.length=0∧l2.length=0)&&!(allB (noF l0 n1) l0.length 0))))],[]):=by
 unfold t152 ta152
 simp only [kik l0 hl1 h1,kcl,gz30,gz31,gz7,bto,ka]
 refine Eq.trans (khi n1 n2 n3 n4 n5 n6 n7 n8 l9 n0 l1 l2 false (fun n9 n83 b0 b1=>some ([.one (.b false)],[])) (fun v0 v1 n88 b2 v2=>some ([.one (.b ((((((decide (n3 ≥ 1))&&(n4==n1))&&(n6==-1))&&(!allB (noF l0 n1) l0.length 0))&&(!decide (w64 (2 * (l0.length:Int)) > n2)))&&(w64 ((l1.length:Int)+(l2.length:Int))==0)))],[])) _ (fun _ _ _ _=>rfl) (fun _ _ _ _ _=>rfl) l0 h1 (by omega) l0.length 0 KK .undef .undef .undef .undef (by omega) (by rw [kl];omega)) ?_
 apply kub
 generalize allB (kwb l0 n2) l0.length 0=r1
 generalize allB (noF l0 n1) l0.length 0=r2
 rw [kb (2 * (l0.length:Int)) (by omega),kb ((l1.length:Int)+(l2.length:Int)) (by omega)]
 cases r1<;>cases r2<;>(rw [Bool.eq_iff_iff];simp [-List.length_eq_zero_iff]<;>try omega)
theorem kdj (n1 n2 n3 n4 n5 n6 n7 n8:Int) (l9:Rw) (n0:Int) (l2 l1 l0:Rw) (h01:0≤n1∧n1≤n2 - 1) (hl2:l1.length≤1048576) (h2:∀r∈l1,typL kr r) (hl3:l0.length≤1048576) (h3:∀r∈l0,typL kr r) :
  t153 n1 n2 n3 n4 n5 n6 n7 n8 l9 n0 l2 l1 l0=some ([.one (.b (decide (n3 ≥ 1∧n4=n1∧n6=n1∧l2.length=0∧(l1.length:Int)=n2∧(l0.length:Int)=n2)&&(decide (xI l0 n1.toNat=w64 (n7+(l9.length:Int)))&&allB (kxc l1 l0 (w64 (n7+(l9.length:Int)))) l0.length 0)))],[]):=by
 have ez:((((((decide (n3 < 1)||(n4 != n1))||(n6 != n1))||decide ((l2.length:Int) > 0))||((l1.length:Int) != n2))||((l0.length:Int) != n2)))=!decide (n3 ≥ 1∧n4=n1∧n6=n1∧l2.length=0∧(l1.length:Int)=n2∧(l0.length:Int)=n2):=by
  rw [Bool.eq_iff_iff];simp [-List.length_eq_zero_iff];omega
 unfold t153 ta153
 by_cases hR:n3 ≥ 1∧n4=n1∧n6=n1∧l2.length=0∧(l1.length:Int)=n2∧(l0.length:Int)=n2
 ·rw [decide_eq_true hR] at ez ⊢
  have hn1:n1.toNat < l0.length:=by omega
  have c1:(decide (0≤n1)&&decide (n1 < (l0.length:Int)))=true:=by simp;omega
  have c2:=krb h3 _ kac n1.toNat hn1
  simp only [ez,c1,c2,kgd,gz28,gz11,bnt,bft,if_false,bat,bta,ka]
  refine Eq.trans (kvi n1 n2 n3 n4 n5 n6 n7 n8 l9 n0 l2 l0 false false (fun n9 n86 b0 b1=>some ([.one (.b false)],[])) (fun v0 v1 n91 b2 v2=>some ([.one (.b (asI (nthD (l0.getD n1.toNat []) 0)==w64 (n7+(l9.length:Int))))],[])) _ (fun _ _ _ _=>rfl) (fun _ _ _ _ _=>rfl) l1 l0 h2 h3 (by omega) (by omega) l0.length 0 KK .undef .undef .undef .undef (by omega) (by rw [kl];omega)) ?_
  apply kub
  rw [Bool.and_comm]
  congr 1
 ·rw [decide_eq_false hR] at ez ⊢
  simp only [ez,bnf,if_true,Bool.false_and]
theorem gz32:∀x,okR zr152 zo152 (some ([.one (.b x)],[]))=true:=fun _=>id rfl
theorem gz33:∀x,okR zr153 zo153 (some ([.one (.b x)],[]))=true:=fun _=>id rfl
theorem kjj (n1 n2 n3 n4 n5 n6 n7 n8:Int) (l9:Rw) (n0:Int) (l0 l1 l2:Rw) (hl:l9.length≤1048576) (h:∀r∈l9,typL ki r) (hl1:l0.length≤1048576) (h1:∀r∈l0,typL kr r) (hl2:l1.length≤1048576) (h2:∀r∈l1,typL kr r) (hl3:l2.length≤1048576) (h3:∀r∈l2,typL kr r) :
  t122 n1 n2 n3 n4 n5 n6 n7 n8 l9 n0 l0 l1 l2=some ([.one (.b (kvd n1 n2 n3 n4 n5 n6 n7 n8 l9 n0 l0 l1 l2))],[]):=by
 have ew4:okR zr125 zo125 (some ([.agg [.i .i64 n3,.i .i64 n4,.i .i64 n7,.i .i64 n8,.s ⟨#[]⟩,.l l9]],[]))=true:=rfl
 have r0:asI (resC (some ([.agg [.i .i64 n3,.i .i64 n4,.i .i64 n7,.i .i64 n8,.s ⟨#[]⟩,.l l9]],[])) 0 0)=n3:=rfl
 have r1:asI (resC (some ([.agg [.i .i64 n3,.i .i64 n4,.i .i64 n7,.i .i64 n8,.s ⟨#[]⟩,.l l9]],[])) 0 1)=n4:=rfl
 have r2:asI (resC (some ([.agg [.i .i64 n3,.i .i64 n4,.i .i64 n7,.i .i64 n8,.s ⟨#[]⟩,.l l9]],[])) 0 2)=n7:=rfl
 have r3:asI (resC (some ([.agg [.i .i64 n3,.i .i64 n4,.i .i64 n7,.i .i64 n8,.s ⟨#[]⟩,.l l9]],[])) 0 3)=n8:=rfl
 have r4:asS (resC (some ([.agg [.i .i64 n3,.i .i64 n4,.i .i64 n7,.i .i64 n8,.s ⟨#[]⟩,.l l9]],[])) 0 4)=⟨#[]⟩:=rfl
 have r5:asL (resC (some ([.agg [.i .i64 n3,.i .i64 n4,.i .i64 n7,.i .i64 n8,.s ⟨#[]⟩,.l l9]],[])) 0 5)=l9:=rfl
 have ey:((((!(decide (1≤n2)&&decide (n2≤5))||!(decide (0≤n1)&&decide (n1≤w64 (n2 - 1))))||decide (n4 ≥ n2))||decide (n7 < 0))||((n7==0)&&(n8 != 0)))=!decide (1≤n2∧n2≤5∧0≤n1∧n1≤n2 - 1∧n4 < n2∧0≤n7∧¬ (n7=0∧n8≠0)):=by
  by_cases hn:1≤n2∧n2≤5
  ·rw [kb (n2 - 1) (by omega),Bool.eq_iff_iff];simp;omega
  ·rw [Bool.eq_iff_iff];simp;omega
 rw [kpj]
 by_cases hP:1≤n2∧n2≤5∧0≤n1∧n1≤n2 - 1∧n4 < n2∧0≤n7∧¬ (n7=0∧n8≠0)
 ·rw [decide_eq_true hP] at ey ⊢
  have hk:=kxf n1 n2 n3 n4 n5 n6 n7 n8 l9 n0 l0 l1 l2 hP.2.2.2.2.2.2 hl h
  simp only [t122,ta122,kvb,gz6,gz28,gz25,gz30,gz7,gz11,ey,bto,ka,hk,ew4,r0,r1,r2,r3,r4,r5,kkd _ _ _ _ _ l9 hl h,kgd,kij n1 n2 n3 n4 n5 n6 n7 n8 l9 n0 l0 l1 l2 hl1 h1 hl2 hl3,kdj n1 n2 n3 n4 n5 n6 n7 n8 l9 n0 l0 l1 l2 ⟨hP.2.2.1,hP.2.2.2.1⟩ hl2 h2 hl3 h3,gz32,gz33,bnt,bnf,if_true,Bool.false_or,bta]
  generalize kfc n3 n4 n7 n8 ⟨#[]⟩ l9=K
  cases K
  ·simp only [bnf,bto,if_true,Bool.false_and]
  simp only [bnt,Bool.false_or,bta]
  have eq:(!(decide (n7≤n0)&&decide (n0≤w64 (n7+(l9.length:Int)))))=!decide (n7≤n0∧n0≤w64 (n7+(l9.length:Int))):=by
   rw [Bool.eq_iff_iff];simp
  by_cases hQ:n7≤n0∧n0≤w64 (n7+(l9.length:Int))
  rotate_left
  ·rw [decide_eq_false hQ] at eq ⊢
   simp only [eq,bnf,if_true,Bool.false_and]
  rw [decide_eq_true hQ] at eq ⊢
  simp only [eq,bnt,bft,if_false,bta]
  unfold kke
  by_cases k1:n5=1
  ·subst k1
   simp only [show ((1:Int)==1)=true from rfl,if_true]
   apply kub
   rw [kb (n2 - 1) (by omega),kb ((l0.length:Int)+(l1.length:Int)) (by omega),kb _ (by omega),Bool.eq_iff_iff]
   simp [-List.length_eq_zero_iff];omega
  have j1:(n5==1)=false:=by simpa using k1
  by_cases k2:n5=2
  ·subst k2
   simp only [j1,k1,show ((2:Int)==2)=true from rfl,bft,if_false,if_true]
  have j2:(n5==2)=false:=by simpa using k2
  by_cases k3:n5=3
  ·subst k3
   simp only [j1,k1,j2,k2,show ((3:Int)==3)=true from rfl,bft,if_false,if_true]
  ·have j3:(n5==3)=false:=by simpa using k3
   simp only [j1,k1,j2,k2,j3,k3,bft,if_false]
 ·rw [decide_eq_false hP] at ey ⊢
  simp only [t122,ta122,kvb,gz6,gz28,gz7,gz11,ey,bto,ka,kgd,bnt,bnf,bft,if_false,Bool.false_and]
def ten0:List D:=[.i .i64 2,.l [[.i .i64 1,.i .i64 2,.i .i64 1023,.i .i64 0,.i .i64 0,.s ⟨#[]⟩,.l [],.i .i64 0,.i .i64 0]],.i .i64 30,.l [],.l []]
theorem kvj:typL ko ten0:=by
 refine ⟨_,_,rfl,⟨_,rfl,rfl⟩,⟨_,_,rfl,⟨_,rfl,?_,?_⟩,⟨_,_,rfl,⟨_,rfl,rfl⟩,⟨_,_,rfl,⟨_,rfl,Nat.zero_le _,fun r h=>by cases h⟩,⟨_,_,rfl,⟨_,rfl,Nat.zero_le _,fun r h=>by cases h⟩,rfl⟩⟩⟩⟩⟩
 ·show 1≤maxLen;unfold maxLen;omega
 ·intro r hr;simp at hr;subst hr
  exact ⟨_,_,rfl,⟨_,rfl,rfl⟩,⟨_,_,rfl,⟨_,rfl,rfl⟩,⟨_,_,rfl,⟨_,rfl,rfl⟩,⟨_,_,rfl,⟨_,rfl,rfl⟩,⟨_,_,rfl,⟨_,rfl,rfl⟩,⟨_,_,rfl,⟨_,rfl,Nat.zero_le _⟩,⟨_,_,rfl,⟨_,rfl,Nat.zero_le _,fun r h=>by cases h⟩,⟨_,_,rfl,⟨_,rfl,rfl⟩,⟨_,_,rfl,⟨_,rfl,rfl⟩,rfl⟩⟩⟩⟩⟩⟩⟩⟩⟩
theorem ksj:szdL ko ten0:=by
 refine ⟨trivial,⟨?_,?_⟩,trivial,⟨Nat.zero_le _,fun r h=>by cases h⟩,⟨Nat.zero_le _,fun r h=>by cases h⟩,trivial⟩
 ·show 1≤1048576;omega
 ·intro r hr
  have hr:r∈[[D.i .i64 1,.i .i64 2,.i .i64 1023,.i .i64 0,.i .i64 0,.s ⟨#[]⟩,.l [],.i .i64 0,.i .i64 0]]:=hr
  simp at hr;subst hr
  exact ⟨trivial,trivial,trivial,trivial,trivial,Nat.zero_le _,⟨Nat.zero_le _,fun r h=>by cases h⟩,trivial,trivial,trivial⟩
theorem krf:t99=some ([.one (.l [ten0,ten0,ten0])],[]):=by
 have h:t131=some ([.agg ten0],[]):=rfl
 obtain ⟨m,hm⟩:∃m,KK=m+4:=⟨KK - 4,by rw [kl]⟩
 unfold t99 ta99
 rw [hm]
 have e0:okR zr131 zo131 (some ([.agg ten0],[]))=true:=rfl
 have e1:([[.i .i64 (asI (resC (some ([.agg ten0],[])) 0 0)),.l (asL (resC (some ([.agg ten0],[])) 0 1)),.i .i64 (asI (resC (some ([.agg ten0],[])) 0 2)),.l (asL (resC (some ([.agg ten0],[])) 0 3)),.l (asL (resC (some ([.agg ten0],[])) 0 4))]]:Rw)=[ten0]:=rfl
 have a0:decide ((0:Int) < 3)=true:=rfl
 have a1:decide (w64 ((0:Int)+1) < 3)=true:=rfl
 have a2:decide (w64 (w64 ((0:Int)+1)+1) < 3)=true:=rfl
 have a3:decide (w64 (w64 (w64 ((0:Int)+1)+1)+1) < 3)=false:=rfl
 simp only [la99o0,h,e0,e1,a0,a1,a2,a3,if_true,bft,if_false,ka,bta]
 have l1:decide ((([]:Rw).length + [ten0].length)≤lim)=true:=rfl
 have l2:decide ((([]++[ten0]:Rw).length + [ten0].length)≤lim)=true:=rfl
 have l3:decide ((([]++[ten0]++[ten0]:Rw).length + [ten0].length)≤lim)=true:=rfl
 rw [l1,l2,l3]
 rfl
theorem knf:t56=some ([.one (.l [ten0,ten0,ten0])],[]):=by
 have h:t91=some ([.agg ten0],[]):=rfl
 obtain ⟨m,hm⟩:∃m,KK=m+4:=⟨KK - 4,by rw [kl]⟩
 unfold t56 ta56
 rw [hm]
 have e0:okR zr91 zo91 (some ([.agg ten0],[]))=true:=rfl
 have e1:([[.i .i64 (asI (resC (some ([.agg ten0],[])) 0 0)),.l (asL (resC (some ([.agg ten0],[])) 0 1)),.i .i64 (asI (resC (some ([.agg ten0],[])) 0 2)),.l (asL (resC (some ([.agg ten0],[])) 0 3)),.l (asL (resC (some ([.agg ten0],[])) 0 4))]]:Rw)=[ten0]:=rfl
 have a0:decide ((0:Int) < 3)=true:=rfl
 have a1:decide (w64 ((0:Int)+1) < 3)=true:=rfl
 have a2:decide (w64 (w64 ((0:Int)+1)+1) < 3)=true:=rfl
 have a3:decide (w64 (w64 (w64 ((0:Int)+1)+1)+1) < 3)=false:=rfl
 simp only [la56o0,h,e0,e1,a0,a1,a2,a3,if_true,bft,if_false,ka,bta]
 have l1:decide ((([]:Rw).length + [ten0].length)≤lim)=true:=rfl
 have l2:decide ((([]++[ten0]:Rw).length + [ten0].length)≤lim)=true:=rfl
 have l3:decide ((([]++[ten0]++[ten0]:Rw).length + [ten0].length)≤lim)=true:=rfl
 rw [l1,l2,l3]
 rfl
abbrev wfI (x:Int):Prop:=(Lit.int .i64 x).wf=true
theorem gz34:∀x,okR zr49 zo49 (some ([.one (.b x)],[]))=true:=fun _=>id rfl
theorem gz35:∀x,okR zr122 zo122 (some ([.one (.b x)],[]))=true:=fun _=>id rfl
theorem khm (x1 x2:Int) (i1:wfI x1) (i2:wfI x2):∃(c1 c2 c3 c4 c5 c6 c7 c8 c10:Int) (c14:Bool),t55 x1 x2 0 (-1) 0 0 ⟨#[]⟩ []=some ([.agg [.i .i64 c1,.i .i64 c2,.i .i64 c3,.i .i64 c4,.i .i64 c5,.i .i64 c6,.i .i64 c7,.i .i64 c8,.l [],.i .i64 c10,.l [],.l [],.l []],.one (.b c14)],[])∧t98 x1 x2 0 (-1) 0 0 ⟨#[]⟩ []=some ([.agg [.i .i64 c1,.i .i64 c2,.i .i64 c3,.i .i64 c4,.i .i64 c5,.i .i64 c6,.i .i64 c7,.i .i64 c8,.l [],.i .i64 c10,.l [],.l [],.l []],.one (.b c14)],[])∧wfI c1∧wfI c2∧wfI c3∧wfI c4∧wfI c5∧wfI c6∧wfI c7∧wfI c8∧wfI c10:=by
 have nn:∀r∈([]:Rw),typL kr r:=fun r h=>by cases h
 have h:∀r∈([]:Rw),typL ki r:=fun r h=>by cases h
 have n0:([]:Rw).length≤1048576:=Nat.zero_le _
 have el:decide ((([]:Rw).length+([]:Rw).length)≤lim)=true:=by unfold lim;simp
 have el2:decide (([]:Rw).length≤lim)=true:=by unfold lim;simp
 simp only [t55,ta55,t98,ta98,kjd _ _ _ _ _ [] n0 h,kkd _ _ _ _ _ [] n0 h,gz23,gz25,gz7,kuc h,el,el2,List.nil_append,kej _ _ _ _ _ _ _ _ [] _ [] [] [] n0 h n0 nn n0 nn n0 nn,kjj _ _ _ _ _ _ _ _ [] _ [] [] [] n0 h n0 nn n0 nn n0 nn,gz34,gz35,bta,ka]
 generalize kfc 0 (-1) 0 0 ⟨#[]⟩ []=K
 generalize kvd x1 x2 0 (-1) 1 (-1) 0 0 [] 0 [] [] []=B
 cases K
 ·exact ⟨0,0,0,0,0,0,0,0,0,false,rfl,rfl,rfl,rfl,rfl,rfl,rfl,rfl,rfl,rfl,rfl⟩
 ·cases B
  ·exact ⟨0,0,0,0,0,0,0,0,0,false,rfl,rfl,rfl,rfl,rfl,rfl,rfl,rfl,rfl,rfl,rfl⟩
  ·exact ⟨x1,x2,0,-1,1,-1,0,0,0,true,rfl,rfl,i1,i2,rfl,rfl,rfl,rfl,rfl,rfl,rfl⟩
theorem ksh:t96 []=some ([.one (.l [])],[]):=by
 obtain ⟨m,hm⟩:∃m,KK=m+1:=⟨KK - 1,by rw [kl]⟩
 unfold t96 ta96
 rw [hm];rfl
theorem gz36:∀a b c d e f g,okR zr15 zo15 (some ([.agg [.i .i64 a,.i .i64 b,.i .i64 c,.i .i64 d,.s e,.l f,.l g]],[]))=true:=fun _ _ _ _ _ _ _=>id rfl
theorem gz37:∀a b c d e f g,okR zr20 zo20 (some ([.agg [.i .i64 a,.i .i64 b,.i .i64 c,.i .i64 d,.s e,.l f,.l g]],[]))=true:=fun _ _ _ _ _ _ _=>id rfl
theorem gz38:∀x,okR zr47 zo47 (some ([.one (.b x)],[]))=true:=fun _=>id rfl
theorem gz39:∀x,okR zr92 zo92 (some ([.one (.b x)],[]))=true:=fun _=>id rfl
theorem gz40:∀x,okR zr48 zo48 (some ([.one (.b x)],[]))=true:=fun _=>id rfl
theorem gz41:∀x,okR zr94 zo94 (some ([.one (.b x)],[]))=true:=fun _=>id rfl
theorem gz42:∀x,okR zr16 zo16 (some ([.one (.b x)],[]))=true:=fun _=>id rfl
theorem gz43:∀x,okR zr57 zo57 (some ([.one (.b x)],[]))=true:=fun _=>id rfl
theorem gz44:∀x,okR zr56 zo56 (some ([.one (.l x)],[]))=true:=fun _=>id rfl
theorem gz45:∀x,okR zr99 zo99 (some ([.one (.l x)],[]))=true:=fun _=>id rfl
theorem kmm (x1 x2:Int) (i1:wfI x1) (i2:wfI x2):∃(r1 r2:Int) (r3:Bool) (r4 r5 r6 r7 r8 r9 r10 r11 r13:Int) (r17:Rw) (r18 r19 r21 r22 r23 r24 r29 r30:Int) (r31:Bool),
  t5 x1 x2=some ([.agg [.i .i64 r1,.i .i64 r2,.b r3,.i .i64 r4,.i .i64 r5,.i .i64 r6,.i .i64 r7,.i .i64 r8,.i .i64 r9,.i .i64 r10,.i .i64 r11,.l [],.i .i64 r13,.l [],.l [],.l [],.l r17,.i .i64 r18,.i .i64 r19,.s ⟨#[]⟩,.i .i64 r21,.i .i64 r22,.i .i64 r23,.i .i64 r24,.s ⟨#[]⟩,.l [],.l [],.l [],.i .i64 r29,.i .i64 r30],.one (.b r31)],[])∧t6 x1 x2=some ([.agg [.i .i64 r1,.i .i64 r2,.b r3,.i .i64 r4,.i .i64 r5,.i .i64 r6,.i .i64 r7,.i .i64 r8,.i .i64 r9,.i .i64 r10,.i .i64 r11,.l [],.i .i64 r13,.l [],.l [],.l [],.l r17,.i .i64 r18,.i .i64 r19,.s ⟨#[]⟩,.i .i64 r21,.i .i64 r22,.i .i64 r23,.i .i64 r24,.s ⟨#[]⟩,.l [],.l [],.l [],.i .i64 r29,.i .i64 r30],.one (.b r31)],[])∧(r17=[]∨r17=[ten0,ten0,ten0])∧wfI r1∧wfI r2∧wfI r4∧wfI r5∧wfI r6∧wfI r7∧wfI r8∧wfI r9∧wfI r10∧wfI r11∧wfI r13∧wfI r18∧wfI r19∧wfI r21∧wfI r22∧wfI r23∧wfI r24∧wfI r29∧wfI r30:=by
 have n0:([]:Rw).length≤1048576:=Nat.zero_le _
 have nn:∀{sh:List Sh},∀r∈([]:Rw),typL sh r:=fun r h=>by cases h
 have ns:∀{sh:List Sh},∀r∈([]:Rw),szdL sh r:=fun r h=>by cases h
 have e15:t15=some ([.agg [.i .i64 0,.i .i64 (-1),.i .i64 0,.i .i64 0,.s ⟨#[]⟩,.l [],.l []]],[]):=rfl
 have e20:t20=some ([.agg [.i .i64 0,.i .i64 (-1),.i .i64 0,.i .i64 0,.s ⟨#[]⟩,.l [],.l []]],[]):=rfl
 obtain ⟨b,hS,hI,-⟩:=kwg 0 (-1) 0 0 ⟨#[]⟩ [] [] (Nat.zero_le _) n0 nn ns n0 nn ns
 obtain ⟨c1,c2,c3,c4,c5,c6,c7,c8,c10,c14,hC,hD,j1,j2,j3,j4,j5,j6,j7,j8,j10⟩:=khm x1 x2 i1 i2
 have ew0:w64 0=0:=rfl
 have ez1:t48 0 0 0 0 0 0 0 0 [] 0 [] [] []=some ([.one (.b true)],[]):=rfl
 have ez2:t94 0 0 0 0 0 0 0 0 [] 0 [] [] []=some ([.one (.b true)],[]):=rfl
 have oS:t16 x1 x2 false 0 0 0 0 0 0 0 0 [] 0 [] [] [] [] 0 0 ⟨#[]⟩ 0 (-1) 0 0 ⟨#[]⟩ [] [] [] (-1) 0=some ([.one (.b (decide (1≤x2)&&decide (x2≤5)&&(decide (0≤x1)&&decide (x1≤w64 (x2 - 1)))&&b))],[]):=by
  unfold t16 ta16
  simp only [kad,hS,gz8,gz38,gz40,gz7,ez1,bto,ka]
  cases (decide (1≤x2)&&decide (x2≤5))<;>cases (decide (0≤x1)&&decide (x1≤w64 (x2 - 1)))<;>cases b<;>(simp [ez1,ez2,gz40,gz41,gz7,ew0])
 have oI:t57 x1 x2 false 0 0 0 0 0 0 0 0 [] 0 [] [] [] [] 0 0 ⟨#[]⟩ 0 (-1) 0 0 ⟨#[]⟩ [] [] [] (-1) 0=some ([.one (.b (decide (1≤x2)&&decide (x2≤5)&&(decide (0≤x1)&&decide (x1≤w64 (x2 - 1)))&&b))],[]):=by
  unfold t57 ta57
  simp only [kvb,hI,gz6,gz39,gz41,gz7,ez2,bto,ka]
  cases (decide (1≤x2)&&decide (x2≤5))<;>cases (decide (0≤x1)&&decide (x1≤w64 (x2 - 1)))<;>cases b<;>(simp [ez1,ez2,gz40,gz41,gz7,ew0])
 have wC:okR zr55 zo55 (some ([.agg [.i .i64 c1,.i .i64 c2,.i .i64 c3,.i .i64 c4,.i .i64 c5,.i .i64 c6,.i .i64 c7,.i .i64 c8,.l [],.i .i64 c10,.l [],.l [],.l []],.one (.b c14)],[]))=true:=rfl
 have wD:okR zr98 zo98 (some ([.agg [.i .i64 c1,.i .i64 c2,.i .i64 c3,.i .i64 c4,.i .i64 c5,.i .i64 c6,.i .i64 c7,.i .i64 c8,.l [],.i .i64 c10,.l [],.l [],.l []],.one (.b c14)],[]))=true:=rfl
 have eC:∀l:List D,asB (resC (some ([.agg l,.one (.b c14)],[])) 1 0)=c14:=fun _=>rfl
 have cc:t95 0 0 0 0 0 0 0 0 [] 0 [] [] []=some ([.agg [.i .i64 0,.i .i64 0,.i .i64 0,.i .i64 0,.i .i64 0,.i .i64 0,.i .i64 0,.i .i64 0,.l [],.i .i64 0,.l [],.l [],.l []]],[]):=rfl
 have cs:t97 0 (-1) 0 0 ⟨#[]⟩ [] []=some ([.agg [.i .i64 0,.i .i64 (-1),.i .i64 0,.i .i64 0,.s ⟨#[]⟩,.l [],.l []]],[]):=by
  unfold t97 ta97
  simp only [kyd _ _ _ _ _ [] nn n0]
  rfl
 have vN:t58 x1 x2 false 0 0 0 0 0 0 0 0 [] 0 [] [] [] [] 0 0 ⟨#[]⟩ 0 (-1) 0 0 ⟨#[]⟩ [] [] [] (-1) 0=some ([.agg [.i .i64 x1,.i .i64 x2,.b false,.i .i64 0,.i .i64 0,.i .i64 0,.i .i64 0,.i .i64 0,.i .i64 0,.i .i64 0,.i .i64 0,.l [],.i .i64 0,.l [],.l [],.l [],.l [],.i .i64 0,.i .i64 0,.s ⟨#[]⟩,.i .i64 0,.i .i64 (-1),.i .i64 0,.i .i64 0,.s ⟨#[]⟩,.l [],.l [],.l [],.i .i64 (-1),.i .i64 0]],[]):=by
  unfold t58 ta58
  simp only [cc,cs,ksh]
  rfl
 have vR:t59 x1 x2 false 0 0 0 0 0 0 0 0 [] 0 [] [] [] [] 0 0 ⟨#[]⟩ 0 (-1) 0 0 ⟨#[]⟩ [] [] [] (-1) 0=some ([.one (.b c14)],[if c14 then [.i .i64 x1,.i .i64 x2,.b true,.i .i64 c1,.i .i64 c2,.i .i64 c3,.i .i64 c4,.i .i64 c5,.i .i64 c6,.i .i64 c7,.i .i64 c8,.l [],.i .i64 c10,.l [],.l [],.l [],.l [ten0,ten0,ten0],.i .i64 0,.i .i64 0,.s ⟨#[]⟩,.i .i64 0,.i .i64 (-1),.i .i64 0,.i .i64 0,.s ⟨#[]⟩,.l [],.l [],.l [],.i .i64 (-1),.i .i64 0] else [.i .i64 x1,.i .i64 x2,.b false,.i .i64 0,.i .i64 0,.i .i64 0,.i .i64 0,.i .i64 0,.i .i64 0,.i .i64 0,.i .i64 0,.l [],.i .i64 0,.l [],.l [],.l [],.l [],.i .i64 0,.i .i64 0,.s ⟨#[]⟩,.i .i64 0,.i .i64 (-1),.i .i64 0,.i .i64 0,.s ⟨#[]⟩,.l [],.l [],.l [],.i .i64 (-1),.i .i64 0]]):=by
  unfold t59 ta59
  simp only [hD,wD,eC,krf,gz45,ka,Bool.false_or]
  cases c14
  ·rfl
  ·simp only [bnt,bft,if_false,beq_self_eq_true,bat]
   rfl
 have vS:t17 x1 x2 false 0 0 0 0 0 0 0 0 [] 0 [] [] [] [] 0 0 ⟨#[]⟩ 0 (-1) 0 0 ⟨#[]⟩ [] [] [] (-1) 0=some ([.agg (if c14 then [.i .i64 x1,.i .i64 x2,.b true,.i .i64 c1,.i .i64 c2,.i .i64 c3,.i .i64 c4,.i .i64 c5,.i .i64 c6,.i .i64 c7,.i .i64 c8,.l [],.i .i64 c10,.l [],.l [],.l [],.l [ten0,ten0,ten0],.i .i64 0,.i .i64 0,.s ⟨#[]⟩,.i .i64 0,.i .i64 (-1),.i .i64 0,.i .i64 0,.s ⟨#[]⟩,.l [],.l [],.l [],.i .i64 (-1),.i .i64 0] else [.i .i64 x1,.i .i64 x2,.b false,.i .i64 0,.i .i64 0,.i .i64 0,.i .i64 0,.i .i64 0,.i .i64 0,.i .i64 0,.i .i64 0,.l [],.i .i64 0,.l [],.l [],.l [],.l [],.i .i64 0,.i .i64 0,.s ⟨#[]⟩,.i .i64 0,.i .i64 (-1),.i .i64 0,.i .i64 0,.s ⟨#[]⟩,.l [],.l [],.l [],.i .i64 (-1),.i .i64 0]),.one (.b c14)],[]):=by
  unfold t17 ta17
  simp only [hC,wC,eC,knf,gz44,ka]
  cases c14<;>rfl
 have rS:t19 x1 x2 false 0 0 0 0 0 0 0 0 [] 0 [] [] [] [] 0 0 ⟨#[]⟩ 0 (-1) 0 0 ⟨#[]⟩ [] [] [] (-1) 0=if (decide (1≤x2)&&decide (x2≤5)&&(decide (0≤x1)&&decide (x1≤w64 (x2 - 1)))&&b) then some ([.agg (if c14 then [.i .i64 x1,.i .i64 x2,.b true,.i .i64 c1,.i .i64 c2,.i .i64 c3,.i .i64 c4,.i .i64 c5,.i .i64 c6,.i .i64 c7,.i .i64 c8,.l [],.i .i64 c10,.l [],.l [],.l [],.l [ten0,ten0,ten0],.i .i64 0,.i .i64 0,.s ⟨#[]⟩,.i .i64 0,.i .i64 (-1),.i .i64 0,.i .i64 0,.s ⟨#[]⟩,.l [],.l [],.l [],.i .i64 (-1),.i .i64 0] else [.i .i64 x1,.i .i64 x2,.b false,.i .i64 0,.i .i64 0,.i .i64 0,.i .i64 0,.i .i64 0,.i .i64 0,.i .i64 0,.i .i64 0,.l [],.i .i64 0,.l [],.l [],.l [],.l [],.i .i64 0,.i .i64 0,.s ⟨#[]⟩,.i .i64 0,.i .i64 (-1),.i .i64 0,.i .i64 0,.s ⟨#[]⟩,.l [],.l [],.l [],.i .i64 (-1),.i .i64 0]),.one (.b c14)],[]) else some ([.agg [.i .i64 0,.i .i64 0,.b false,.i .i64 0,.i .i64 0,.i .i64 0,.i .i64 0,.i .i64 0,.i .i64 0,.i .i64 0,.i .i64 0,.l [],.i .i64 0,.l [],.l [],.l [],.l [],.i .i64 0,.i .i64 0,.s ⟨#[]⟩,.i .i64 0,.i .i64 0,.i .i64 0,.i .i64 0,.s ⟨#[]⟩,.l [],.l [],.l [],.i .i64 0,.i .i64 0],.one (.b false)],[]):=by
  unfold t19 ta19
  simp only [oI,gz43,gz7,ka]
  generalize (decide (1≤x2)&&decide (x2≤5)&&(decide (0≤x1)&&decide (x1≤w64 (x2 - 1)))&&b)=G
  cases G
  ·rfl
  ·simp only [vN,bnt,bft,if_false,if_true]
   erw [vR]
   cases c14<;>rfl
 have fS:t5 x1 x2=if (decide (1≤x2)&&decide (x2≤5)&&(decide (0≤x1)&&decide (x1≤w64 (x2 - 1)))&&b) then some ([.agg (if c14 then [.i .i64 x1,.i .i64 x2,.b true,.i .i64 c1,.i .i64 c2,.i .i64 c3,.i .i64 c4,.i .i64 c5,.i .i64 c6,.i .i64 c7,.i .i64 c8,.l [],.i .i64 c10,.l [],.l [],.l [],.l [ten0,ten0,ten0],.i .i64 0,.i .i64 0,.s ⟨#[]⟩,.i .i64 0,.i .i64 (-1),.i .i64 0,.i .i64 0,.s ⟨#[]⟩,.l [],.l [],.l [],.i .i64 (-1),.i .i64 0] else [.i .i64 x1,.i .i64 x2,.b false,.i .i64 0,.i .i64 0,.i .i64 0,.i .i64 0,.i .i64 0,.i .i64 0,.i .i64 0,.i .i64 0,.l [],.i .i64 0,.l [],.l [],.l [],.l [],.i .i64 0,.i .i64 0,.s ⟨#[]⟩,.i .i64 0,.i .i64 (-1),.i .i64 0,.i .i64 0,.s ⟨#[]⟩,.l [],.l [],.l [],.i .i64 (-1),.i .i64 0]),.one (.b c14)],[]) else some ([.agg [.i .i64 0,.i .i64 0,.b false,.i .i64 0,.i .i64 0,.i .i64 0,.i .i64 0,.i .i64 0,.i .i64 0,.i .i64 0,.i .i64 0,.l [],.i .i64 0,.l [],.l [],.l [],.l [],.i .i64 0,.i .i64 0,.s ⟨#[]⟩,.i .i64 0,.i .i64 0,.i .i64 0,.i .i64 0,.s ⟨#[]⟩,.l [],.l [],.l [],.i .i64 0,.i .i64 0],.one (.b false)],[]):=by
  unfold t5 ta5
  simp only [e15]
  erw [oS,vS]
  generalize (decide (1≤x2)&&decide (x2≤5)&&(decide (0≤x1)&&decide (x1≤w64 (x2 - 1)))&&b)=G
  cases G
  ·rfl
  ·cases c14<;>rfl
 have fI:t6 x1 x2=if (decide (1≤x2)&&decide (x2≤5)&&(decide (0≤x1)&&decide (x1≤w64 (x2 - 1)))&&b) then some ([.agg (if c14 then [.i .i64 x1,.i .i64 x2,.b true,.i .i64 c1,.i .i64 c2,.i .i64 c3,.i .i64 c4,.i .i64 c5,.i .i64 c6,.i .i64 c7,.i .i64 c8,.l [],.i .i64 c10,.l [],.l [],.l [],.l [ten0,ten0,ten0],.i .i64 0,.i .i64 0,.s ⟨#[]⟩,.i .i64 0,.i .i64 (-1),.i .i64 0,.i .i64 0,.s ⟨#[]⟩,.l [],.l [],.l [],.i .i64 (-1),.i .i64 0] else [.i .i64 x1,.i .i64 x2,.b false,.i .i64 0,.i .i64 0,.i .i64 0,.i .i64 0,.i .i64 0,.i .i64 0,.i .i64 0,.i .i64 0,.l [],.i .i64 0,.l [],.l [],.l [],.l [],.i .i64 0,.i .i64 0,.s ⟨#[]⟩,.i .i64 0,.i .i64 (-1),.i .i64 0,.i .i64 0,.s ⟨#[]⟩,.l [],.l [],.l [],.i .i64 (-1),.i .i64 0]),.one (.b c14)],[]) else some ([.agg [.i .i64 0,.i .i64 0,.b false,.i .i64 0,.i .i64 0,.i .i64 0,.i .i64 0,.i .i64 0,.i .i64 0,.i .i64 0,.i .i64 0,.l [],.i .i64 0,.l [],.l [],.l [],.l [],.i .i64 0,.i .i64 0,.s ⟨#[]⟩,.i .i64 0,.i .i64 0,.i .i64 0,.i .i64 0,.s ⟨#[]⟩,.l [],.l [],.l [],.i .i64 0,.i .i64 0],.one (.b false)],[]):=by
  unfold t6 ta6
  simp only [e20]
  simp only [kvb,gz6,gz7,bto,ka]
  erw [rS]
  cases (decide (1≤x2)&&decide (x2≤5))
  ·rfl
  ·cases (decide (0≤x1)&&decide (x1≤w64 (x2 - 1)))
   ·rfl
   ·cases b
    ·rfl
    ·cases c14<;>rfl
 rw [fS,fI]
 cases (decide (1≤x2)&&decide (x2≤5)&&(decide (0≤x1)&&decide (x1≤w64 (x2 - 1)))&&b)
 ·exact ⟨0,0,false,0,0,0,0,0,0,0,0,0,[],0,0,0,0,0,0,0,0,false,rfl,rfl,Or.inl rfl,rfl,rfl,rfl,rfl,rfl,rfl,rfl,rfl,rfl,rfl,rfl,rfl,rfl,rfl,rfl,rfl,rfl,rfl,rfl⟩
 ·cases c14
  ·exact ⟨x1,x2,false,0,0,0,0,0,0,0,0,0,[],0,0,0,(-1),0,0,(-1),0,false,rfl,rfl,Or.inl rfl,i1,i2,rfl,rfl,rfl,rfl,rfl,rfl,rfl,rfl,rfl,rfl,rfl,rfl,rfl,rfl,rfl,rfl,rfl⟩
  ·exact ⟨x1,x2,true,c1,c2,c3,c4,c5,c6,c7,c8,c10,[ten0,ten0,ten0],0,0,0,(-1),0,0,(-1),0,true,rfl,rfl,Or.inr rfl,i1,i2,j1,j2,j3,j4,j5,j6,j7,j8,j10,rfl,rfl,rfl,rfl,rfl,rfl,rfl,rfl⟩
theorem klm (x1 x2:Int) (i1:wfI x1) (i2:wfI x2):∃(row:List D),(okR zr5 zo5 (t5 x1 x2)=true∧([[.i .i64 (asI (resC (t5 x1 x2) 0 0)),.i .i64 (asI (resC (t5 x1 x2) 0 1)),.b (asB (resC (t5 x1 x2) 0 2)),.i .i64 (asI (resC (t5 x1 x2) 0 3)),.i .i64 (asI (resC (t5 x1 x2) 0 4)),.i .i64 (asI (resC (t5 x1 x2) 0 5)),.i .i64 (asI (resC (t5 x1 x2) 0 6)),.i .i64 (asI (resC (t5 x1 x2) 0 7)),.i .i64 (asI (resC (t5 x1 x2) 0 8)),.i .i64 (asI (resC (t5 x1 x2) 0 9)),.i .i64 (asI (resC (t5 x1 x2) 0 10)),.l (asL (resC (t5 x1 x2) 0 11)),.i .i64 (asI (resC (t5 x1 x2) 0 12)),.l (asL (resC (t5 x1 x2) 0 13)),.l (asL (resC (t5 x1 x2) 0 14)),.l (asL (resC (t5 x1 x2) 0 15)),.l (asL (resC (t5 x1 x2) 0 16)),.i .i64 (asI (resC (t5 x1 x2) 0 17)),.i .i64 (asI (resC (t5 x1 x2) 0 18)),.s (asS (resC (t5 x1 x2) 0 19)),.i .i64 (asI (resC (t5 x1 x2) 0 20)),.i .i64 (asI (resC (t5 x1 x2) 0 21)),.i .i64 (asI (resC (t5 x1 x2) 0 22)),.i .i64 (asI (resC (t5 x1 x2) 0 23)),.s (asS (resC (t5 x1 x2) 0 24)),.l (asL (resC (t5 x1 x2) 0 25)),.l (asL (resC (t5 x1 x2) 0 26)),.l (asL (resC (t5 x1 x2) 0 27)),.i .i64 (asI (resC (t5 x1 x2) 0 28)),.i .i64 (asI (resC (t5 x1 x2) 0 29))]]:Rw)=[row])∧(okR zr6 zo6 (t6 x1 x2)=true∧([[.i .i64 (asI (resC (t6 x1 x2) 0 0)),.i .i64 (asI (resC (t6 x1 x2) 0 1)),.b (asB (resC (t6 x1 x2) 0 2)),.i .i64 (asI (resC (t6 x1 x2) 0 3)),.i .i64 (asI (resC (t6 x1 x2) 0 4)),.i .i64 (asI (resC (t6 x1 x2) 0 5)),.i .i64 (asI (resC (t6 x1 x2) 0 6)),.i .i64 (asI (resC (t6 x1 x2) 0 7)),.i .i64 (asI (resC (t6 x1 x2) 0 8)),.i .i64 (asI (resC (t6 x1 x2) 0 9)),.i .i64 (asI (resC (t6 x1 x2) 0 10)),.l (asL (resC (t6 x1 x2) 0 11)),.i .i64 (asI (resC (t6 x1 x2) 0 12)),.l (asL (resC (t6 x1 x2) 0 13)),.l (asL (resC (t6 x1 x2) 0 14)),.l (asL (resC (t6 x1 x2) 0 15)),.l (asL (resC (t6 x1 x2) 0 16)),.i .i64 (asI (resC (t6 x1 x2) 0 17)),.i .i64 (asI (resC (t6 x1 x2) 0 18)),.s (asS (resC (t6 x1 x2) 0 19)),.i .i64 (asI (resC (t6 x1 x2) 0 20)),.i .i64 (asI (resC (t6 x1 x2) 0 21)),.i .i64 (asI (resC (t6 x1 x2) 0 22)),.i .i64 (asI (resC (t6 x1 x2) 0 23)),.s (asS (resC (t6 x1 x2) 0 24)),.l (asL (resC (t6 x1 x2) 0 25)),.l (asL (resC (t6 x1 x2) 0 26)),.l (asL (resC (t6 x1 x2) 0 27)),.i .i64 (asI (resC (t6 x1 x2) 0 28)),.i .i64 (asI (resC (t6 x1 x2) 0 29))]]:Rw)=[row])∧typL ky row∧szdL ky row∧kec row≤1000:=by
 obtain ⟨r1,r2,r3,r4,r5,r6,r7,r8,r9,r10,r11,r13,r17,r18,r19,r21,r22,r23,r24,r29,r30,r31,h5,h6,hr,v1,v2,v4,v5,v6,v7,v8,v9,v0,v3,v13,v18,v19,v21,v22,v23,v24,v29,v30⟩:=kmm x1 x2 i1 i2
 have nn:∀{sh:List Sh},∀r∈([]:Rw),typL sh r:=fun r h=>by cases h
 have ns:∀{sh:List Sh},∀r∈([]:Rw),szdL sh r:=fun r h=>by cases h
 have wl:r17.length≤maxLen:=by cases hr<;>subst r17<;>simp [maxLen]
 have zl:r17.length≤1048576:=by cases hr<;>subst r17<;>simp
 have tl:∀r∈r17,typL ko r:=by
  intro r h;cases hr<;>subst r17
  ·cases h
  ·simp at h;subst h;exact kvj
 have sl:∀r∈r17,szdL ko r:=by
  intro r h;cases hr<;>subst r17
  ·cases h
  ·simp at h;subst h;exact ksj
 have cl:kc r17≤900:=by
  cases hr<;>subst r17
  ·show (0:Int)≤900;omega
  ·decide
 refine ⟨[.i .i64 r1,.i .i64 r2,.b r3,.i .i64 r4,.i .i64 r5,.i .i64 r6,.i .i64 r7,.i .i64 r8,.i .i64 r9,.i .i64 r10,.i .i64 r11,.l [],.i .i64 r13,.l [],.l [],.l [],.l r17,.i .i64 r18,.i .i64 r19,.s ⟨#[]⟩,.i .i64 r21,.i .i64 r22,.i .i64 r23,.i .i64 r24,.s ⟨#[]⟩,.l [],.l [],.l [],.i .i64 r29,.i .i64 r30],⟨?_,?_⟩,⟨?_,?_⟩,⟨_,_,rfl,⟨_,rfl,v1⟩,⟨_,_,rfl,⟨_,rfl,v2⟩,⟨_,_,rfl,⟨_,rfl⟩,⟨_,_,rfl,⟨_,rfl,v4⟩,⟨_,_,rfl,⟨_,rfl,v5⟩,⟨_,_,rfl,⟨_,rfl,v6⟩,⟨_,_,rfl,⟨_,rfl,v7⟩,⟨_,_,rfl,⟨_,rfl,v8⟩,⟨_,_,rfl,⟨_,rfl,v9⟩,⟨_,_,rfl,⟨_,rfl,v0⟩,⟨_,_,rfl,⟨_,rfl,v3⟩,⟨_,_,rfl,⟨_,rfl,Nat.zero_le _,nn⟩,⟨_,_,rfl,⟨_,rfl,v13⟩,⟨_,_,rfl,⟨_,rfl,Nat.zero_le _,nn⟩,⟨_,_,rfl,⟨_,rfl,Nat.zero_le _,nn⟩,⟨_,_,rfl,⟨_,rfl,Nat.zero_le _,nn⟩,⟨_,_,rfl,⟨_,rfl,wl,tl⟩,⟨_,_,rfl,⟨_,rfl,v18⟩,⟨_,_,rfl,⟨_,rfl,v19⟩,⟨_,_,rfl,⟨_,rfl,Nat.zero_le _⟩,⟨_,_,rfl,⟨_,rfl,v21⟩,⟨_,_,rfl,⟨_,rfl,v22⟩,⟨_,_,rfl,⟨_,rfl,v23⟩,⟨_,_,rfl,⟨_,rfl,v24⟩,⟨_,_,rfl,⟨_,rfl,Nat.zero_le _⟩,⟨_,_,rfl,⟨_,rfl,Nat.zero_le _,nn⟩,⟨_,_,rfl,⟨_,rfl,Nat.zero_le _,nn⟩,⟨_,_,rfl,⟨_,rfl,Nat.zero_le _,nn⟩,⟨_,_,rfl,⟨_,rfl,v29⟩,⟨_,_,rfl,⟨_,rfl,v30⟩,rfl⟩⟩⟩⟩⟩⟩⟩⟩⟩⟩⟩⟩⟩⟩⟩⟩⟩⟩⟩⟩⟩⟩⟩⟩⟩⟩⟩⟩⟩⟩,⟨trivial,trivial,trivial,trivial,trivial,trivial,trivial,trivial,trivial,trivial,trivial,⟨Nat.zero_le _,ns⟩,trivial,⟨Nat.zero_le _,ns⟩,⟨Nat.zero_le _,ns⟩,⟨Nat.zero_le _,ns⟩,⟨zl,sl⟩,trivial,trivial,Nat.zero_le _,trivial,trivial,trivial,trivial,Nat.zero_le _,⟨Nat.zero_le _,ns⟩,⟨Nat.zero_le _,ns⟩,⟨Nat.zero_le _,ns⟩,trivial,trivial,trivial⟩,?_⟩
 ·rw [h5];rfl
 ·rw [h5];rfl
 ·rw [h6];rfl
 ·rw [h6];rfl
 ·simp only [kec,nthD,asL,List.length_nil];omega
theorem kfj (x1:Int) (a1 a2 a3 a4:Bool) (b1 b2 b3 b4:Bool) (q:Int→Bool→Rw→Rs) (q2:SV→Int→Bool→Rw→Rs) (hx:x1≤5):∀(k m:Nat) (i:Int) (v w u:SV) (l:Rw),0≤i→x1=i+(k:Int)→k < m→l.length+k≤1000 →
  ∃(rows:Rw) (u':SV),rows.length=k∧(∀r∈rows,typL ky r)∧(∀r∈rows,szdL ky r)∧kf rows≤1000 * (k:Int) ∧
   la10o1 t5 t34 x1 a1 a2 a3 a4 q m i v l=q x1 false (l++rows)∧la11o1 t6 t18 x1 b1 b2 x1 b3 b4 q2 m u i w l=q2 u' x1 false (l++rows):=by
 intro k
 induction k with
 | zero =>
  intro m i v w u l h0 hi hm hl
  obtain ⟨m,rfl⟩:∃m',m=m' + 1:=⟨m - 1,by omega⟩
  have e:decide (i < x1)=false:=decide_eq_false (by omega)
  have ei:i=x1:=by omega
  rw [ei] at e ⊢
  refine ⟨[],keepV [128,256,16385] u,rfl,(fun r h=>by cases h),(fun r h=>by cases h),(by simp [kf]),?_,?_⟩
  ·simp only [la10o1,e,bft,if_false,List.append_nil]
  ·simp only [la11o1,e,bft,if_false,List.append_nil]
 | succ k ih =>
  intro m i v w u l h0 hi hm hl
  obtain ⟨m,rfl⟩:∃m',m=m' + 1:=⟨m - 1,by omega⟩
  have e:decide (i < x1)=true:=decide_eq_true (by omega)
  have ew:w64 (i+1)=i+1:=kb _ (by omega)
  obtain ⟨row,⟨o5,y5⟩,⟨o6,y6⟩,ht,hz,hc⟩:=klm i x1 (kni i (by omega)) (kni x1 (by omega))
  have el:decide (l.length + [row].length≤lim)=true:=decide_eq_true (by simp only [List.length_singleton];unfold lim;omega)
  obtain ⟨rows,u',g1,g2,g3,g4,g5,g6⟩:=ih m (i+1) (.d (.b true)) (.d (.b true)) (.d (.i .i64 i)) (l++[row]) (by omega) (by omega) (by omega) (by simp only [List.length_append,List.length_singleton];omega)
  refine ⟨row :: rows,u',by simp [g1],?_,?_,?_,?_,?_⟩
  ·intro r h;rcases List.mem_cons.1 h with h | h
   ·subst h;exact ht
   ·exact g2 r h
  ·intro r h;rcases List.mem_cons.1 h with h | h
   ·subst h;exact hz
   ·exact g3 r h
  ·simp only [kf];omega
  ·simp only [la10o1,e,if_true,o5,y5,ka,el,ew,bta]
   rw [g5,List.append_assoc];rfl
  ·simp only [la11o1,e,if_true,o6,y6,ka,el,ew,bta]
   rw [g6,List.append_assoc];rfl
theorem kkg (x1:Int):∃(r1 r2 r3 r4:Rw) (r5 r6:Bool),
  t10 x1=some ([.agg [.l r1,.l r2,.l r3,.l r4,.b r5],.one (.b r6)],[])∧t11 x1=some ([.agg [.l r1,.l r2,.l r3,.l r4,.b r5],.one (.b r6)],[]) ∧
  r1.length≤1048576∧(∀r∈r1,typL ky r)∧(∀r∈r1,szdL ky r)∧kf r1≤1000000000000∧r2.length≤1048576∧(∀r∈r2,typL klb r)∧(∀r∈r2,szdL klb r)∧r3.length≤1048576∧(∀r∈r3,typL kqd r)∧r4.length≤1048576∧(∀r∈r4,typL ki r)∧True:=by
 have n0:([]:Rw).length≤1048576:=Nat.zero_le _
 have nn:∀{sh:List Sh},∀r∈([]:Rw),typL sh r:=fun r h=>by cases h
 have ns:∀{sh:List Sh},∀r∈([]:Rw),szdL sh r:=fun r h=>by cases h
 unfold t10 ta10 t11 ta11
 simp only [kad,kvb,gz8,gz6,gz7,ka]
 by_cases h:1≤x1∧x1≤5
 ·have e:(decide (1≤x1)&&decide (x1≤5))=true:=by simp [h.1,h.2]
  simp only [e,bnt,bft,if_false]
  obtain ⟨rows,u',g1,g2,g3,g4,g5,g6⟩:=kfj x1 false false false false false false false false (fun _ _ l1=>some ([.agg [.l l1,.l [],.l [],.l [],.b false],.one (.b true)],[])) (fun _ _ _ l1=>some ([.agg [.l l1,.l [],.l [],.l [],.b false],.one (.b true)],[])) h.2 x1.toNat KK 0 .undef .undef .undef [] (by omega) (by omega) (by rw [kl];omega) (by simp only [List.length_nil];omega)
  exact ⟨rows,[],[],[],false,true,g5,g6,by omega,g2,g3,by omega,n0,nn,ns,n0,nn,n0,nn,trivial⟩
 ·have e:(decide (1≤x1)&&decide (x1≤5))=false:=by
   by_cases h1:1≤x1
   ·have h2:¬ x1≤5:=fun h2=>h ⟨h1,h2⟩
    simp [h2]
   ·simp [h1]
  simp only [e,bnf,if_true]
  exact ⟨[],[],[],[],false,false,rfl,rfl,n0,nn,ns,by simp [kf],n0,nn,ns,n0,nn,n0,nn,trivial⟩
theorem law4 (x1:Int):t4 x1=some ([.one (.b true)],[]):=by
 obtain ⟨r1,r2,r3,r4,r5,r6,k1,k2,qr1,tr1,szr1,br1,qr2,tr2,szr2,qr3,tr3,qr4,tr4,_⟩:=kkg x1 
 have nr1:=klc r1
 have br2:=kzc r2 tr2 szr2
 have nr2:=koc r2
 have mr3:∀r∈r3,r.length=6:=fun r hr=>kn _ r (tr3 r hr)
 have mr4:∀r∈r4,r.length=2:=fun r hr=>kn _ r (tr4 r hr)
 have f1:=kuh r1 r2 r3 r4 r5 tr1 szr1 qr1 br1 tr2 szr2 qr2 mr3 qr3 mr4 qr4 (1) (by omega) (by omega)
 have f2:decide (1+kf r1+kj r2+6 * (r3.length:Int)+2 * (r4.length:Int) < 0)=false:=decide_eq_false (by omega)
 have f3:=kwh r1 r2 r3 r4 r5 tr1 szr1 qr1 br1 tr2 szr2 qr2 mr3 qr3 mr4 qr4 (1) (by omega) (by omega)
 have f4:decide (1+kf r1+kj r2+6 * (r3.length:Int)+2 * (r4.length:Int) < 0)=false:=decide_eq_false (by omega)
 simp only [t4,ta4,k1,k2,kph r1 r2 r3 r4 r5 qr1 tr1 szr1 qr2 tr2 szr2 qr3 tr3 qr4 tr4,f1,f2,f3,f4,zr10,zo10,zr11,zo11,zr12,zo12,zr13,zo13,zr14,zo14,okR,isVs,isV,isD,isDs,isOs,resC,outC,nthR,nthO,cellsDV,nthD,asB,asI,asS,asL,bat,bta,bto,BEq.rfl,ka,bne_self_eq_false,bnt,bnf,Bool.or_self,Bool.or_false,Bool.false_or,decide_true,decide_false,bft,if_false,if_true]
end Go.Den.L4
