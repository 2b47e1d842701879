/- Contracts of functions of the program: what each returns and leaves in memory. Printed by gen.py and walk.py. -/
import Derived.Test.YtgebaodagaecmaaGreatDoorMg25
import Derived.Test.YtgebaodagaecmaaGreatDoorHxA
set_option maxRecDepth 10000
namespace Go.Proofs.YtgebaodagaecmaaGreatDoor
open Go Go.Hw
set_option linter.unusedSimpArgs false
set_option linter.unusedVariables false
def toldP (c:Cl)(la:List TG)(es:List AG)(i j:Nat):Bool:=(la.take i).any fun y=>decide (headI c y.l=(es.getD j default).x)
theorem toldP_zero (c:Cl)(la:List TG)(es:List AG):toldP c la es 0=fun _=>false:=by funext j;simp [toldP]
theorem toldP_step {c:Cl}{la:List TG}{es:List AG}{i p:Nat}{y:TG}{py:AG}(hy:la[i]?=some y)(hs:Str cmpA (es.map AG.x))(hp:es[p]?=some py)(he:py.x=headI c y.l):∀ k,k<es.length→toldP c la es (i+1) k=(toldP c la es i k || decide (k=p)):=by
 intro k hk;unfold toldP;rw [Jb4 hy,List.any_append,List.any_cons,List.any_nil,Bool.or_false];congr 1;obtain ⟨z,hz⟩:∃ z,es[k]?=some z:=⟨_,xD hk⟩
 have hg:es.getD k default=z:=by rw [yF,hz];rfl
 rw [hg,← he];refine decide_eq_decide.2 ⟨fun h=>?_,fun h=>?_⟩
 ·rcases Nat.lt_trichotomy k p with h1 | h1 | h1
  ·have:=Jmn hs hz hp h1;rw [h,cmpA_ok.refl] at this;omega
  ·exact h1
  ·have:=Jmn hs hp hz h1;rw [h,cmpA_ok.refl] at this;omega
 ·subst h;rw [hp] at hz;rw [xH hz]
theorem toldP_all {c:Cl}{la:List TG}{es:List AG}(h:∀ x∈es.map AG.x,∃ r∈la.map TG.l,x=headI c r){k:Nat}(hk:k<es.length):toldP c la es la.length k=true:=by
 unfold toldP;rw [List.take_length,List.any_eq_true];obtain ⟨z,hz⟩:∃ z,es[k]?=some z:=⟨_,xD hk⟩
 have hg:es.getD k default=z:=by rw [yF,hz];rfl
 obtain ⟨r,hr,he⟩:=h z.x (List.mem_map.2 ⟨z,xC hz,rfl⟩);obtain ⟨y,hy,rfl⟩:=List.mem_map.1 hr;exact ⟨y,hy,by rw [hg,he];simp⟩
theorem in_part {O N X:List At}{lead:Option Nat}{i:Nat}{x:At}(h:x∈selF (Jdd O N X) (Jbx i lead)):∃ m,(x,m)∈Jdd O N X∧inV i lead (m:Int)=true:=by
 obtain ⟨m,hm,hp⟩:=Jn7.1 h;refine ⟨m,hm,?_⟩
 have h3:m=1∨m=2∨m=4:=by
  obtain ⟨_,⟨h,_⟩ | ⟨h,_⟩ | ⟨h,_⟩⟩:=mem_filled.1 hm
  ·exact Or.inl h
  ·exact Or.inr (Or.inl h)
  ·exact Or.inr (Or.inr h)
 have h34:inP 3 4=false:=by decide
 unfold Jbx at hp;unfold inV;rcases h3 with rfl | rfl | rfl
 ·cases lead with
  | none=>rfl
  | some l=>
   simp only at hp ⊢
   split
   ·rfl
   ·rename_i h1;rw [if_neg h1] at hp
    split at hp
    ·rw [in21] at hp;cases hp
    ·rw [if_pos (by omega)];rfl
 ·cases lead with
  | none=>rfl
  | some l=>
   simp only at hp ⊢
   split
   ·rfl
   ·rename_i h1;rw [if_neg h1] at hp
    split at hp
    ·rw [if_neg (by omega)];rfl
    ·rw [in12] at hp;cases hp
 ·cases lead with
  | none=>simp only at hp;rw [h34] at hp;cases hp
  | some l=>
   simp only at hp
   split at hp
   ·rw [h34] at hp;cases hp
   ·split at hp
    ·rw [in24] at hp;cases hp
    ·rw [in14] at hp;cases hp
theorem inst_tests {FF:Nat→At→Prop}{c:Cl}{n:Nat}{r:List Tm}(h:Sol FF c n r){g:CG}(hg:g.cl=mapC (instT r) c):∀ t∈g.ts,decB t=(true,true):=fun t ht=>by
 have h1:g.ts=c.ts.map (mapT (instT r)):=congrArg Cl.ts hg;rw [h1] at ht;obtain ⟨t0,ht0,rfl⟩:=List.mem_map.1 ht;rw [inst_ts];exact okT_dec (h.ts t0 ht0)
theorem inst_body {FF:Nat→At→Prop}{c:Cl}{n:Nat}{r:List Tm}(h:Sol FF c n r){g:CG}(hg:g.cl=mapC (instT r) c){i:Nat}{u:AG}(hu:g.bd[i]?=some u):FF i u.x∧∃ a∈c.bd,u.x.args.length=a.args.length:=by
 have h1:g.bd.map AG.x=c.bd.map (mapA (instT r)):=congrArg Cl.bd hg;have h2:(c.bd.map (mapA (instT r)))[i]?=some u.x:=by rw [← h1,xG,hu];rfl
 rw [xG] at h2;obtain ⟨a,ha,he⟩:=Option.map_eq_some_iff.1 h2;refine ⟨?_,a,xC ha,?_⟩
 ·rw [← he,inst_at];exact (h.bd i a ha).1
 ·rw [← he];unfold mapA;simp
set_option maxHeartbeats 4000000 in
theorem Jds (f:FG)(ho:FS f.o)(hnn:FS f.n)(hx:FS f.x)(g:CG)(hs:∀ y,y=g.hd∨y∈g.bd→y.x.args.length≤1048576∧y.x.name.size≤1099511627776)(hbl:g.bd.length≤1048576)(htl:g.ts.length≤1048576)(lead:Int)(hb:lead < -1∨((madeC g.cl).bd.length:Int)≤lead)(w:World)(hN:Jc2 w)(hC:Jge w)(hr:RF w f)(hrg:RC w g):Calls Tryz.prog 6 #[.agg (fgC f).toArray,cgV g,.int .i64 lead] w fun e w'=>e=.returned (.bool true)∧Fr0 w w':=by
 refine Jbn (args:=[.agg (fgC f).toArray,cgV g,.int .i64 lead]) (fun _=>False) Tryz.func6 rfl Tryz.ntmps6 rfl rfl ?_;refine Csr (WL.box rfl rfl rfl ?_);intro b3;refine WL.box rfl rfl rfl ?_;intro b4;refine Za rfl (Nn (Csr (Zv (OV.lN (cs:=cgC g) rfl T.u32 rfl T.z32 yH) (WL.cT (ι:=CG) (vs:=[cgV g]) (vv:=fun q=>cgV q) (pp:=fun q=>q.cl=madeC g.cl) [] (AA:=fun q=>cgA q) rfl (fun w' hw' _=>made_calls g hs hbl htl w' (hrg.keeps hw'.keeps)) ?_))));rintro q hq;have hv:VC q.cl:=by rw [hq];exact madeC_ok _
 have hqb:q.cl.bd.length=q.bd.length:=xE _;have hb2:lead < -1∨(q.bd.length:Int)≤lead:=by rw [← hqb,hq];exact hb
 refine WL.alloc T.zr32 rfl ?_;intro b7;refine WL.ag (vs:=cgC q) rfl rfl rfl T.z32 rfl ?_;refine Nn (Cs (WC.weak (S':=Sat w (fun _=>False) (fun b=>b<w.heap.size) w ((oQ b7 (cgC q) 32::(cgA q++[oQ b4 (cgC g) 32,oQ b3 (fgC f) 24]))++[])) (fun w' hw=>by rw [xZ];exact hw) ?_));refine WC.snap (fun w1 hw1=>?_);rw [xZ] at hw1;have hrq:RC w1 q:=RC.of_items hw1 (fun i hi=>show i∈oQ b7 (cgC q) 32::(cgA q++[oQ b4 (cgC g) 32,oQ b3 (fgC f) 24]) from .tail _ (xA _ hi));have hbq:∀ j v,(cgC q)[j]?=some v→w1.cell? ⟨b7,j,none⟩=some v:=Jbh hw1 yH;have hbf:∀ j v,(fgC f)[j]?=some v→w1.cell? ⟨b3,j,none⟩=some v:=Jbh hw1 (show oQ b3 (fgC f) 24∈_ by simp);have hk1:=hw1.keeps;replace hN:=hN.keeps hk1;replace hC:=hC.keeps hk1;replace hr:RF w1 f:=⟨hr.o.keeps hk1,hr.n.keeps hk1,hr.x.keeps hk1⟩
 have hb8:q.bd.length≤8:=by rw [← hqb];exact hv.bl
 have hm60:=most_le hb8;have hmsm:=most_smallF hb8;obtain ⟨n,hn⟩:∃ n,n=mostN q.bd.length:=⟨_,rfl⟩
 rw [← hn] at hmsm;have hn30:n≤60:=by omega
 have t1:=Ji7 f.o n;have t2:=Ji7 f.n n;have t3:=Ji7 f.x n;have hn72:=hv.nV72;refine Hd (fun w'=>Keeps w1 w') [] (fun _ hw=>snapK hw) (m:=7) rfl ?_;refine Ht 0 rfl (OV.aj (cs:=fgC f) rfl T.u24 rfl T.z24 (fun _ hw j v hj=>by rw [Jan,xM];exact hw _ _ (hbf j v hj))) ?_
 first
 | (refine Hf 1 rfl (OV.f0 5 rfl T.u32 rfl) ?_;trace "ALT Jds#0 75ec517c 0")
 | (refine Hf 1 rfl (OV.cu (off:=5) rfl T.u32 rfl) ?_;trace "ALT Jds#0 75ec517c 1")
 refine Ht 2 rfl (OV.ai (v:=.slice q.ba q.bd.length q.bc) rfl T.u22 rfl (fun _ hw=>hw _ _ (hbq 5 _ rfl))) ?_
 first
 | (refine Hf 3 rfl (OV.ae rfl T.u22) ?_;trace "ALT Jds#1 c04edde8 0")
 | (refine Hf 3 rfl (OV.cy rfl T.u22) ?_;trace "ALT Jds#1 c04edde8 1")
 refine Ho 4 rfl (fl':=false) rfl ?_;refine WL.aw (v:=.int .i64 (n:Int)) (by kernel_rfl) rfl rfl (fun w' hw'=>by rw [hn];exact most_law q.bd.length hb8 w') ?_;refine Hc (fun _=>(fun _ hw=>snapK hw)) ?_;refine Ho 5 rfl (fl':=false) rfl ?_;refine WL.cT (ι:=BaseG) (vs:=[.agg (fgC f).toArray,.int .i64 (n:Int)]) (vv:=fun g'=>ptr g'.p) (pp:=fun g'=>BS g' (0+(f.o.take n).length+(f.n.take n).length+(f.x.take n).length) (Jdd (mfL f.o n) (mfL f.n n) (mfL f.x n))) [] (AA:=fun g'=>baseA g') rfl (fun w' hw' _=>filled_calls f n ho hnn hx w' (hN.keeps (snapK hw')) ⟨hr.o.keeps (snapK hw'),hr.n.keeps (snapK hw'),hr.x.keeps (snapK hw')⟩) ?_;rintro h1 bh1;obtain ⟨ph1,hph1⟩:∃ p,h1.p=p:=⟨_,rfl⟩
 rw [hph1];refine Hc (fun _=>(fun _ hw=>snapK hw)) ?_;refine Hf 6 rfl (OV.assign rfl) (He (Xn (Cs (Csr (Zm rfl (Zv ((OV.i6 T.u35 rfl rfl).cast (u:=.bool false) rfl) (Zm rfl (WL.known (t:=32) (b:=false) rfl (by rfl) ?_))))))));refine yY (WL.c0 (v:=.bool true) (vs:=[]) (fun w' hw'=>first_calls w' (hN.keeps (snapK hw')) (hC.keeps (snapK hw'))) ?_);refine yY (Zv (OV.not rfl) (Zv (OV.ak rfl rfl) (Nn (WC.bu (show _=some (Value.bool false) from by rfl) ?_))));refine Ck (Xn (Csr (Zm rfl (Zv (OV.aj (cs:=cgC q) rfl T.u32 rfl T.z32 (fun _ hw j v hj=>by rw [Jan,xM];exact snapK hw _ _ (hbq j v hj))) (Zm rfl (WL.c0 (v:=.tuple #[.slice none 0 0,.int .i64 91]) (vs:=[ptr ph1,cgV q,.int .i64 lead]) (fun w' hw'=>solve_bad q hv lead hb2 (ptr ph1) w' (hN.keeps (snapK hw')) (hC.keeps (snapK hw')) (hrq.keeps (snapK hw'))) ?_))))));refine Zm rfl (Zv (OV.extract rfl rfl) (Zv (OV.extract rfl rfl) (Za rfl (Za rfl (Nn (Csr (Zm rfl (Zv (OV.aj (cs:=cgC q) rfl T.u32 rfl T.z32 (fun _ hw j v hj=>by rw [Jan,xM];exact snapK hw _ _ (hbq j v hj))) (Zm rfl (WL.c0 (v:=.tuple #[.slice none 0 0,.int .i64 91]) (vs:=[ptr ph1,cgV q,.int .i64 lead]) (fun w' hw'=>fire_bad q hv lead hb2 (ptr ph1) w' (hN.keeps (snapK hw')) (hC.keeps (snapK hw')) (hrq.keeps (snapK hw'))) ?_))))))))));refine Zm rfl (Zv (OV.extract rfl rfl) (Zv (OV.extract rfl rfl) (Za rfl (Za rfl (Nn (Cs (Cs ?_)))))));refine WC.gz [(9,.slice none 0 0),(10,.int .i64 91),(11,.slice none 0 0),(12,.int .i64 91),(58,.bool true)] (Sat w (fun _=>False) (fun b=>b<w1.heap.size∧∀ i∈([]:List Hw.Item),¬ i.D b) w1 (baseA h1++[])) ?_ ?_
 ·have hqx:True:=trivial;refine Cr (Zm rfl (Zv (OV.cq rfl rfl) (Zm rfl ?_)));refine Zp (t:=52) rfl (fun g52=>?_) (fun g52=>?_)
  ·refine yX (yX (yX (yX (yX (Zv (OV.ao rfl rfl) (Nl ?_))))));exact WX.dw Y5 (fun w' hw=>hw)
  refine yY (Zm rfl (yY ?_))
  first
  | (refine WL.val (OV.f0 5 rfl T.u32 rfl) rfl ?_;trace "ALT Jds#2 75ec517c 0")
  | (refine WL.val (OV.cu (off:=5) rfl T.u32 rfl) rfl ?_;trace "ALT Jds#2 75ec517c 1")
  refine yY (Zv (OV.ai (v:=.slice q.ba q.bd.length q.bc) rfl T.u22 rfl (fun _ hw=>snapK hw _ _ (hbq 5 _ rfl))) (yY ?_))
  first
  | (refine WL.val (OV.ae rfl T.u22) rfl ?_;trace "ALT Jds#3 c04edde8 0")
  | (refine WL.val (OV.cy rfl T.u22) rfl ?_;trace "ALT Jds#3 c04edde8 1")
  refine yY ?_;have hge:lead≥(q.bd.length:Int):=hb2.resolve_left (by simpa using g52);refine Zv ((OV.ij rfl rfl).cast (u:=.bool true) (congrArg Value.bool (xO hge))) (Zv (OV.ak rfl rfl) (Nl ?_));exact WX.dw ⟨rfl,rfl,rfl,rfl,by (first | rfl | (simp only [Env,ev];rfl)),trivial⟩ (fun w' hw=>hw)
 refine WC.cm (show _=some (Value.bool true) from by rfl) ?_;refine Csr (Zm rfl (Zv ((OV.dp rfl rfl).cast (u:=.bool true) rfl) (Zm rfl (WL.known (t:=61) (b:=true) rfl (by rfl) ?_))));refine yY (Zm rfl (yY (Zv ((OV.dp rfl rfl).cast (u:=.bool true) rfl) (Zv (OV.ao rfl rfl) (Zm rfl (WL.known (t:=65) (b:=true) rfl (by rfl) ?_))))));refine yY (Zm rfl (yY ?_))
 first
 | (refine WL.val (OV.ae rfl T.u39) rfl ?_;trace "ALT Jds#4 c04edde8 0")
 | (refine WL.val (OV.cy rfl T.u39) rfl ?_;trace "ALT Jds#4 c04edde8 1")
 refine yY (Zv ((OV.dp rfl rfl).cast (u:=.bool true) rfl) (Zv (OV.ao rfl rfl) (Zm rfl (WL.known (t:=70) (b:=true) rfl (by rfl) ?_))));refine yY (Zm rfl (yY ?_))
 first
 | (refine WL.val (OV.ae rfl T.u22) rfl ?_;trace "ALT Jds#5 c04edde8 0")
 | (refine WL.val (OV.cy rfl T.u22) rfl ?_;trace "ALT Jds#5 c04edde8 1")
 refine yY (Zv ((OV.dp rfl rfl).cast (u:=.bool true) rfl) (Zv (OV.ao rfl rfl) (Za rfl (Nn (WC.bg ?_)))));refine Xr ?_;exact WX.ret1 rfl rfl rfl (fun w' hw=>⟨rfl,hw.fr⟩)
set_option maxHeartbeats 4000000 in
theorem Jby (f:FG)(ho:FS f.o)(hnn:FS f.n)(hx:FS f.x)(g:CG)(hs:∀ y,y=g.hd∨y∈g.bd→y.x.args.length≤1048576∧y.x.name.size≤1099511627776)(hbl:g.bd.length≤1048576)(htl:g.ts.length≤1048576)(lead:Option Nat)(hld0:∀ l,lead=some l→l<(madeC g.cl).bd.length)(w:World)(hN:Jc2 w)(hC:Jge w)(hr:RF w f)(hrg:RC w g):Calls Tryz.prog 6 #[.agg (fgC f).toArray,cgV g,.int .i64 (leadI lead)] w fun e w'=>e=.returned (.bool true)∧Fr0 w w':=by
 have hl1:-1≤leadI lead:=by unfold leadI;cases lead <;> simp only [Option.elim] <;> omega
 have hl2:leadI lead<((madeC g.cl).bd.length:Int)∨leadI lead=-1:=by
  unfold leadI;cases h:lead with
  | none=>exact Or.inr rfl
  | some l=>exact Or.inl (by have:=hld0 l h;simp only [Option.elim];omega)
 refine Jbn (args:=[.agg (fgC f).toArray,cgV g,.int .i64 (leadI lead)]) (fun _=>False) Tryz.func6 rfl Tryz.ntmps6 rfl rfl ?_;refine Csr (WL.box rfl rfl rfl ?_);intro b3;refine WL.box rfl rfl rfl ?_;intro b4;refine Za rfl (Nn (Csr (Zv (OV.lN (cs:=cgC g) rfl T.u32 rfl T.z32 yH) (WL.cT (ι:=CG) (vs:=[cgV g]) (vv:=fun q=>cgV q) (pp:=fun q=>q.cl=madeC g.cl) [] (AA:=fun q=>cgA q) rfl (fun w' hw' _=>made_calls g hs hbl htl w' (hrg.keeps hw'.keeps)) ?_))));rintro q hq;have hv:VC q.cl:=by rw [hq];exact madeC_ok _
 have hqb:q.cl.bd.length=q.bd.length:=xE _;have hl3:leadI lead<(q.bd.length:Int):=by rw [← hqb,hq];rcases hl2 with h | h <;> omega
 refine WL.alloc T.zr32 rfl ?_;intro b7;refine WL.ag (vs:=cgC q) rfl rfl rfl T.z32 rfl ?_;refine Nn (Cs (WC.weak (S':=Sat w (fun _=>False) (fun b=>b<w.heap.size) w ((oQ b7 (cgC q) 32::(cgA q++[oQ b4 (cgC g) 32,oQ b3 (fgC f) 24]))++[])) (fun w' hw=>by rw [xZ];exact hw) ?_));refine WC.snap (fun w1 hw1=>?_);rw [xZ] at hw1;have hrq:RC w1 q:=RC.of_items hw1 (fun i hi=>show i∈oQ b7 (cgC q) 32::(cgA q++[oQ b4 (cgC g) 32,oQ b3 (fgC f) 24]) from .tail _ (xA _ hi));have hbq:∀ j v,(cgC q)[j]?=some v→w1.cell? ⟨b7,j,none⟩=some v:=Jbh hw1 yH;have hbf:∀ j v,(fgC f)[j]?=some v→w1.cell? ⟨b3,j,none⟩=some v:=Jbh hw1 (show oQ b3 (fgC f) 24∈_ by simp);have hk1:=hw1.keeps;replace hN:=hN.keeps hk1;replace hC:=hC.keeps hk1;replace hr:RF w1 f:=⟨hr.o.keeps hk1,hr.n.keeps hk1,hr.x.keeps hk1⟩
 have hb8:q.bd.length≤8:=by rw [← hqb];exact hv.bl
 have hm60:=most_le hb8;have hmsm:=most_smallF hb8;obtain ⟨n,hn⟩:∃ n,n=mostN q.bd.length:=⟨_,rfl⟩
 rw [← hn] at hmsm;have hn30:n≤60:=by omega
 have t1:=Ji7 f.o n;have t2:=Ji7 f.n n;have t3:=Ji7 f.x n;have hn72:=hv.nV72;refine Hd (fun w'=>Keeps w1 w') [] (fun _ hw=>snapK hw) (m:=7) rfl ?_;refine Ht 0 rfl (OV.aj (cs:=fgC f) rfl T.u24 rfl T.z24 (fun _ hw j v hj=>by rw [Jan,xM];exact hw _ _ (hbf j v hj))) ?_
 first
 | (refine Hf 1 rfl (OV.f0 5 rfl T.u32 rfl) ?_;trace "ALT Jby#0 75ec517c 0")
 | (refine Hf 1 rfl (OV.cu (off:=5) rfl T.u32 rfl) ?_;trace "ALT Jby#0 75ec517c 1")
 refine Ht 2 rfl (OV.ai (v:=.slice q.ba q.bd.length q.bc) rfl T.u22 rfl (fun _ hw=>hw _ _ (hbq 5 _ rfl))) ?_
 first
 | (refine Hf 3 rfl (OV.ae rfl T.u22) ?_;trace "ALT Jby#1 c04edde8 0")
 | (refine Hf 3 rfl (OV.cy rfl T.u22) ?_;trace "ALT Jby#1 c04edde8 1")
 refine Ho 4 rfl (fl':=false) rfl ?_;refine WL.aw (v:=.int .i64 (n:Int)) (by kernel_rfl) rfl rfl (fun w' hw'=>by rw [hn];exact most_law q.bd.length hb8 w') ?_;refine Hc (fun _=>(fun _ hw=>snapK hw)) ?_;refine Ho 5 rfl (fl':=false) rfl ?_;refine WL.cT (ι:=BaseG) (vs:=[.agg (fgC f).toArray,.int .i64 (n:Int)]) (vv:=fun g'=>ptr g'.p) (pp:=fun g'=>BS g' (0+(f.o.take n).length+(f.n.take n).length+(f.x.take n).length) (Jdd (mfL f.o n) (mfL f.n n) (mfL f.x n))) [] (AA:=fun g'=>baseA g') rfl (fun w' hw' _=>filled_calls f n ho hnn hx w' (hN.keeps (snapK hw')) ⟨hr.o.keeps (snapK hw'),hr.n.keeps (snapK hw'),hr.x.keeps (snapK hw')⟩) ?_;rintro h1 bh1;obtain ⟨ph1,hph1⟩:∃ p,h1.p=p:=⟨_,rfl⟩
 rw [hph1];refine Hc (fun _=>(fun _ hw=>snapK hw)) ?_;refine Hf 6 rfl (OV.assign rfl) (He (Xn (Cs (Csr (Zm rfl (Zv ((OV.i6 T.u35 rfl rfl).cast (u:=.bool false) rfl) (Zm rfl (WL.known (t:=32) (b:=false) rfl (by rfl) ?_))))))));refine yY (WL.c0 (v:=.bool true) (vs:=[]) (fun w' hw'=>first_calls w' (hN.keeps (snapK hw')) (hC.keeps (snapK hw'))) ?_);refine yY (Zv (OV.not rfl) (Zv (OV.ak rfl rfl) (Nn (WC.bu (show _=some (Value.bool false) from by rfl) ?_))));refine Ck (Xn (Csr (Zm rfl (Zv (OV.aj (cs:=cgC q) rfl T.u32 rfl T.z32 (fun _ hw j v hj=>by rw [Jan,xM];exact snapK hw _ _ (hbq j v hj))) (Zm rfl ?_)))))
 refine WL.cT (ι:=BaseG × Option Addr × Nat × List TG) (vs:=[ptr ph1,cgV q,.int .i64 (leadI lead)]) (vv:=fun z=>.tuple #[.slice z.2.1 z.2.2.2.length z.2.2.1,.int .i64 0]) (pp:=fun z=>(BS z.1 _ (Jdd (mfL f.o n) (mfL f.n n) (mfL f.x n))∧z.1.p=ph1)∧Str cmpR (z.2.2.2.map TG.l)∧(∀ r,r∈z.2.2.2.map TG.l↔Sol (FFs (Jdd (mfL f.o n) (mfL f.n n) (mfL f.x n)) lead) q.cl (nV q.cl) r)∧z.2.2.2.length≤1048576) (baseA h1) (AA:=fun z=>baseA z.1++(rowR z.2.1 z.2.2.1 z.2.2.2::z.2.2.2.map tgA)) rfl (fun w' hw' hH=>by
  have h9:=solve_calls h1 _ _ bh1 (by omega) Jf8 q hv.cs hv lead (fun l hl=>by rw [hq];exact hld0 l hl) (pow_smallF (Nat.le_trans bh1.fk (by omega)) hmsm) w1 w' (snapK hw') (snapB hw') hN hC hrq hH;rw [hph1] at h9;exact h9) ?_
 rintro ⟨k1,laa,lac,la⟩ ⟨⟨bk1,pk1⟩,sla,ela,zla⟩;dsimp only at bk1 pk1 sla ela zla;refine Zm rfl (Zv (OV.extract rfl rfl) (Zv (OV.extract rfl rfl) (Za rfl (Za rfl (Nn (Csr (Zm rfl (Zv (OV.aj (cs:=cgC q) rfl T.u32 rfl T.z32 (fun _ hw j v hj=>by rw [Jan,xM];exact snapK hw _ _ (hbq j v hj))) (Zm rfl (WL.focus (ow':=baseA k1++((rowR laa lac la::la.map tgA)++[])) (List.Perm.of_eq (by rw [xF])) ?_))))))))))
 refine WL.cT (ι:=AnsA) (vs:=[ptr ph1,cgV q,.int .i64 (leadI lead)]) (vv:=fun z=>.tuple #[.slice z.a z.ys.length z.c,.int .i64 0]) (pp:=fun z=>(BS z.g _ (Jdd (mfL f.o n) (mfL f.n n) (mfL f.x n))∧z.g.p=ph1)∧Str cmpA (z.ys.map AG.x)∧(∀ x,x∈z.ys.map AG.x↔∃ r,Sol (FFs (Jdd (mfL f.o n) (mfL f.n n) (mfL f.x n)) lead) q.cl (nV q.cl) r∧x=headI q.cl r)∧z.ys.length≤1048576∧∀ y∈z.ys,y.x.args.length≤8) (baseA k1) (AA:=fun z=>baseA z.g++atsA z.a z.c z.ys) rfl (fun w' hw' hH=>by
  have h9:=fire_calls k1 _ _ bk1 (by omega) Jf8 q hv.cs hv lead (fun l hl=>by rw [hq];exact hld0 l hl) (pow_smallF (Nat.le_trans bk1.fk (by omega)) hmsm) w1 w' (snapK hw') (snapB hw') hN hC hrq hH;rw [pk1] at h9;exact h9) ?_
 rintro ⟨k2,ea,ec,es⟩ ⟨⟨bk2,pk2⟩,ses,ees,zes,hes8⟩;dsimp only at bk2 pk2 ses ees zes hes8;refine Zm rfl (Zv (OV.extract rfl rfl) (Zv (OV.extract rfl rfl) (Za rfl (Za rfl (Nn (Cs (Csr (Zm rfl (Zv ((OV.cq rfl rfl).cast (u:=.bool false) (congrArg Value.bool (xP (by omega)))) (Zm rfl (WL.known (t:=52) (b:=false) rfl (by rfl) ?_)))))))))));refine yY (Zm rfl (yY ?_))
 first
 | (refine WL.val (OV.f0 5 rfl T.u32 rfl) rfl ?_;trace "ALT Jby#2 75ec517c 0")
 | (refine WL.val (OV.cu (off:=5) rfl T.u32 rfl) rfl ?_;trace "ALT Jby#2 75ec517c 1")
 refine yY (Zv (OV.ai (v:=.slice q.ba q.bd.length q.bc) rfl T.u22 rfl (fun _ hw=>snapK hw _ _ (hbq 5 _ rfl))) (yY ?_))
 first
 | (refine WL.val (OV.ae rfl T.u22) rfl ?_;trace "ALT Jby#3 c04edde8 0")
 | (refine WL.val (OV.cy rfl T.u22) rfl ?_;trace "ALT Jby#3 c04edde8 1")
 refine yY (Zv ((OV.ij rfl rfl).cast (u:=.bool false) (congrArg Value.bool (xP (by omega)))) (Zv (OV.ak rfl rfl) (Nn (WC.bu (show _=some (Value.bool false) from by rfl) ?_))));refine Ck (Xn (Cs (Cs ?_)));have hlal:∀ y∈la,y.l.length=nV q.cl:=fun y hy=>((ela _).1 (List.mem_map.2 ⟨y,hy,rfl⟩)).len
 have hlak:∀ y∈la,∀ t∈y.l,Jc1 t=true:=fun y hy=>sol_const hv (fun i x hx=>by
  obtain ⟨m,hm,_⟩:=Jn7.1 hx;exact Jf8 _ hm) ((ela _).1 (List.mem_map.2 ⟨y,hy,rfl⟩))
 have hlas:la.length≤1099511627776:=by omega
 have hes:es.length≤1099511627776:=by omega
 refine Cr (Zm rfl (Zv ((OV.gg rfl rfl).cast (u:=.bool false) rfl) (Zm rfl (WL.known (t:=77) (b:=false) rfl (by rfl) ?_))));refine yY (Zm rfl (yY (Zv ((OV.gg rfl rfl).cast (u:=.bool false) rfl) (Zv (OV.ak rfl rfl) (Zm rfl (WL.known (t:=81) (b:=false) rfl (by rfl) ?_))))));refine yY (Zm rfl (yY (Zv (OV.aj (cs:=cgC q) rfl T.u32 rfl T.z32 (fun _ hw j v hj=>by rw [Jan,xM];exact snapK hw _ _ (hbq j v hj))) (yY (WL.c0 (v:=.int .i64 (nV q.cl:Nat)) (vs:=[cgV q]) (fun w' hw'=>cvars_calls q hv.cs w' (hrq.keeps (snapK hw'))) ?_)))));refine yY (WL.c0 (v:=.bool true) (vs:=[.slice laa la.length lac,.int .i64 (nV q.cl:Nat)]) (fun w' hw'=>rises_law la laa lac sla hlas (nV q.cl) (by omega) hlal hlak w' (RTG.of_items (c:=lac) (show Sat w (fun _=>False) (fun b=>b<w1.heap.size∧∀ i∈([]:List Hw.Item),¬ i.D b) w1 ((baseA k2++atsA ea ec es)++((rowR laa lac la::la.map tgA)++[])) w' from hw') (xB _ (xA _ yH)) (fun y hy=>xB _ (xA _ (yV (List.mem_map.2 ⟨y,hy,rfl⟩)))))) ?_);refine yY (Zv (OV.not rfl) (Zv (OV.ak rfl rfl) (Nn (WC.bu (show _=some (Value.bool false) from by rfl) ?_))));refine Ck (Xn (Csr (Zm rfl ?_)))
 first
 | (refine WL.val (OV.ae rfl T.u22) rfl ?_;trace "ALT Jby#4 c04edde8 0")
 | (refine WL.val (OV.cy rfl T.u22) rfl ?_;trace "ALT Jby#4 c04edde8 1")
 refine WL.makeSlice (m:=es.length) (bytes:=1) (zc:=.bool false) rfl rfl T.u68 T.z4 T.zr4 (by kernel_rfl) ⟨by omega,by omega⟩ rfl ?_;intro b90;rw [bL_zero];refine Za rfl (Nn (Cs (Csr (Za rfl (Nn (Cb ?_))))))
 refine WC.weak (S':=Sat w (fun _=>False) (fun b=>b<w1.heap.size∧∀ i∈([]:List Hw.Item),¬ i.D b) w1 (baseA k2++(oQ b90 (bL es.length (toldP q.cl la es 0)) 4::(atsA ea ec es++(rowR laa lac la::la.map tgA))))) (fun w' hw=>by
  rw [toldP_zero];rw [xZ,xF] at hw;exact hw.pik [[oQ b90 (bL es.length (fun _=>false)) 4],baseA k2,atsA ea ec es,(rowR laa lac la::la.map tgA)] [1,0,2,3] 4) ?_
 refine WC.cg (fun (i:Nat)=>[(2,.int .i64 (leadI lead)),(7,yZ b7),(8,ptr ph1),(9,.slice laa la.length lac),(11,.slice ea es.length ec),(13,.slice (some ⟨b90,0,none⟩) es.length es.length),(14,.int .i64 (i:Int))])
   (fun i w'=>i≤la.length∧Sat w (fun _=>False) (fun b=>b<w1.heap.size∧∀ i∈([]:List Hw.Item),¬ i.D b) w1 (baseA k2++(oQ b90 (bL es.length (toldP q.cl la es i)) 4::(atsA ea ec es++(rowR laa lac la::la.map tgA)))) w')
   (fun i=>la.length - i) 0 Y7 (fun w' hw=>⟨by omega,hw⟩) ?_
 intro i;refine WC.pure (fun hi=>?_);refine Cs (Csr (Zm rfl (Zm rfl ?_)))
 first
 | (refine WL.val (OV.ae rfl T.u39) rfl ?_;trace "ALT Jby#5 c04edde8 0")
 | (refine WL.val (OV.cy rfl T.u39) rfl ?_;trace "ALT Jby#5 c04edde8 1")
 refine Zv (OV.cq rfl rfl) (Nn ?_);refine Cc rfl (fun c94=>?_) (fun c94=>?_)
 ·refine Ck (Xn (Cs (Cb (Cs ?_))));refine WC.li (fun (z:Nat × CG × TG)=>[(2,.int .i64 (leadI lead)),(7,yZ b7),(8,ptr ph1),(9,.slice laa la.length lac),(11,.slice ea es.length ec),(13,.slice (some ⟨b90,0,none⟩) es.length es.length),(14,.int .i64 (i:Int)),(15,yZ z.1)]) (fun (z:Nat × CG × TG)=>fun w'=>(la[i]?=some z.2.2∧z.2.1.cl=mapC (instT z.2.2.l) q.cl)∧Sat w (fun _=>False) (fun b=>b<w1.heap.size∧∀ i∈([]:List Hw.Item),¬ i.D b) w1 (baseA k2++(oQ z.1 (cgC z.2.1) 32::(cgA z.2.1++(oQ b90 (bL es.length (toldP q.cl la es i)) 4::(atsA ea ec es++(rowR laa lac la::la.map tgA)))))) w') ?_ ?_
  ·refine WC.kz (fun w' hw'=>((RTG.of_items (c:=lac) (show Sat w (fun _=>False) (fun b=>b<w1.heap.size∧∀ i∈([]:List Hw.Item),¬ i.D b) w1 (baseA k2++(oQ b90 (bL es.length (toldP q.cl la es i)) 4::(atsA ea ec es++(rowR laa lac la::la.map tgA)))) w' from hw') (xB _ (yV (xB _ yH))) (fun y hy=>xB _ (yV (xB _ (yV (List.mem_map.2 ⟨y,hy,rfl⟩)))))).get (i:=i) (by omega)).imp (fun q8 h=>h.imp (fun y h2=>(⟨h2.1,h2.2.1⟩:laa=some q8∧la[i]?=some y)))) (fun hqq=>?_);obtain ⟨q9,y,hq9,hyy⟩:=hqq;refine Hd (fun w'=>Keeps w1 w'∧RTG w' laa la) [5] (fun w' hw'=>⟨snapK hw',RTG.of_items (c:=lac) hw' (by first | exact xB _ (yV (xB _ yH)) | exact .tail _ (xB _ (yV (xB _ yH)))) (fun y hy=>by first | exact xB _ (yV (xB _ (yV (List.mem_map.2 ⟨y,hy,rfl⟩)))) | exact .tail _ (xB _ (yV (xB _ (yV (List.mem_map.2 ⟨y,hy,rfl⟩))))))⟩) (m:=8) rfl ?_;refine Ht 0 rfl (OV.aj (cs:=cgC q) rfl T.u32 rfl T.z32 (fun _ hw j v hj=>by rw [Jan,xM];exact hw.1 _ _ (hbq j v hj))) (Hf 1 rfl (OV.au rfl) (Hf 2 rfl (OV.au rfl) (Hf 3 rfl ((OV.ad (show _=some (Value.slice (some q9) la.length lac) by rw [← hq9];rfl) rfl T.u39 T.z27 (by omega)).cast (u:=.pointer (some (q9.add i))) (by rw [xN,Nat.mul_one])) (Ht 4 rfl (OV.ai (v:=tgV y) rfl T.u27 rfl (fun w' hw'=>hw'.2.at_ _ hq9 i y hyy)) ?_))));refine Hr (WH.two 5 6 rfl rfl (by kernel_rfl) (listed1:=[true,true,true,true,true,true,false,false]) rfl (listed2:=[true,true,true,true,true,false,true,false]) rfl (fl1:=true) rfl (fl2:=false) rfl ?_ ?_)
   ·refine WL.cT (ι:=CG) (vs:=[cgV q,tgV y]) (vv:=fun g'=>cgV g') (pp:=fun g'=>g'.cl=mapC (instT y.l) q.cl) [] (AA:=fun g'=>cgA g') rfl (fun w' hw' _=>(Jf5 q hv.cs y.l y.a y.c (by have:=hlal y (xC hyy);omega) w' (hrq.keeps (snapK hw')) (RT.of_row (c:=y.c) rfl hw' (by first | exact (xB _ (yV (xB _ (yV (List.mem_map.2 ⟨y,xC hyy,rfl⟩))))) | exact .tail _ (xB _ (yV (xB _ (yV (List.mem_map.2 ⟨y,xC hyy,rfl⟩)))))))).mono (fun en w'' ⟨g',h1,h2,h3⟩=>⟨g',h1,h2,h3⟩)) ?_;rintro g2 hg2;refine Hc (fun h=>by cases h) ?_;refine Ho 6 rfl (fl':=true) rfl ?_;refine WL.alloc T.zr32 rfl ?_;intro b15;refine Hc (fun h=>by cases h) ?_;refine Ho 7 rfl (fl':=true) rfl ?_;refine WL.ag (vs:=cgC g2) rfl rfl rfl T.z32 rfl ?_;refine Hc (fun h=>by cases h) ?_;refine He ?_;exact WX.e9 (b15,g2,y) Y8 (fun w' hw=>⟨⟨hyy,hg2⟩,hw.pik [[oQ b15 (cgC g2) 32],cgA g2,baseA k2,(oQ b90 (bL es.length (toldP q.cl la es i)) 4::(atsA ea ec es++(rowR laa lac la::la.map tgA)))] [2,0,1,3] 4⟩)
   refine WL.alloc T.zr32 rfl ?_;intro b15;refine Hc (fun _=>(fun w' hw'=>⟨snapK hw',RTG.of_items (c:=lac) hw' (by first | exact xB _ (yV (xB _ yH)) | exact .tail _ (xB _ (yV (xB _ yH)))) (fun y hy=>by first | exact xB _ (yV (xB _ (yV (List.mem_map.2 ⟨y,hy,rfl⟩)))) | exact .tail _ (xB _ (yV (xB _ (yV (List.mem_map.2 ⟨y,hy,rfl⟩))))))⟩)) ?_;refine Ho 5 rfl (fl':=true) rfl ?_;refine WL.cT (ι:=CG) (vs:=[cgV q,tgV y]) (vv:=fun g'=>cgV g') (pp:=fun g'=>g'.cl=mapC (instT y.l) q.cl) [] (AA:=fun g'=>cgA g') rfl (fun w' hw' _=>(Jf5 q hv.cs y.l y.a y.c (by have:=hlal y (xC hyy);omega) w' (hrq.keeps (snapK hw')) (RT.of_row (c:=y.c) rfl hw' (by first | exact (xB _ (yV (xB _ (yV (List.mem_map.2 ⟨y,xC hyy,rfl⟩))))) | exact .tail _ (xB _ (yV (xB _ (yV (List.mem_map.2 ⟨y,xC hyy,rfl⟩)))))))).mono (fun en w'' ⟨g',h1,h2,h3⟩=>⟨g',h1,h2,h3⟩)) ?_;rintro g2 hg2;refine Hc (fun h=>by cases h) ?_;refine Ho 7 rfl (fl':=true) rfl ?_;refine WL.focus (ow':=oQ b15 ([.int .i64 0,.int .i64 0,.string ByteArray.empty,.string ByteArray.empty,.slice none 0 0,.slice none 0 0,.slice none 0 0]:List Value) 32::(cgA g2++(baseA k2++(oQ b90 (bL es.length (toldP q.cl la es i)) 4::(atsA ea ec es++(rowR laa lac la::la.map tgA)))))) (pmC [cgA g2,[oQ b15 ([.int .i64 0,.int .i64 0,.string ByteArray.empty,.string ByteArray.empty,.slice none 0 0,.slice none 0 0,.slice none 0 0]:List Value) 32],baseA k2++(oQ b90 (bL es.length (toldP q.cl la es i)) 4::(atsA ea ec es++(rowR laa lac la::la.map tgA)))] [1,0,2]) ?_;refine WL.ag (vs:=cgC g2) rfl rfl rfl T.z32 rfl ?_;refine Hc (fun h=>by cases h) ?_;refine He ?_;exact WX.e9 (b15,g2,y) Y8 (fun w' hw=>⟨⟨hyy,hg2⟩,hw.pik [[oQ b15 (cgC g2) 32],cgA g2,baseA k2,(oQ b90 (bL es.length (toldP q.cl la es i)) 4::(atsA ea ec es++(rowR laa lac la::la.map tgA)))] [2,0,1,3] 4⟩)
  rintro ⟨b15,g2,y⟩;refine WC.pure (fun hyg=>?_);obtain ⟨hyy,hg2⟩:=hyg;dsimp only at hyy hg2;refine Cs (Csr (Za rfl (Nn (Cb ?_))));have hsol0:Sol (FFs (Jdd (mfL f.o n) (mfL f.n n) (mfL f.x n)) lead) q.cl (nV q.cl) y.l:=(ela _).1 (List.mem_map.2 ⟨y,xC hyy,rfl⟩);have htests:=inst_tests hsol0 hg2
  have htl2:g2.ts.length≤8:=by
   have h9:g2.ts=q.cl.ts.map (mapT (instT y.l)):=congrArg Cl.ts hg2;rw [h9,xE];exact hv.tl
  refine WC.cg (fun (k:Nat)=>[(2,.int .i64 (leadI lead)),(7,yZ b7),(8,ptr ph1),(9,.slice laa la.length lac),(11,.slice ea es.length ec),(13,.slice (some ⟨b90,0,none⟩) es.length es.length),(14,.int .i64 (i:Int)),(15,yZ b15),(16,.int .i64 (k:Int))])
    (fun k w'=>k≤g2.ts.length∧Sat w (fun _=>False) (fun b=>b<w1.heap.size∧∀ i∈([]:List Hw.Item),¬ i.D b) w1 (baseA k2++(oQ b15 (cgC g2) 32::(cgA g2++(oQ b90 (bL es.length (toldP q.cl la es i)) 4::(atsA ea ec es++(rowR laa lac la::la.map tgA)))))) w')
    (fun k=>g2.ts.length - k) 0 Y9 (fun w' hw=>⟨by omega,hw⟩) ?_
  intro k;refine WC.pure (fun hk=>?_);refine Cs (Csr (Zm rfl ?_))
  first
  | (refine WL.val (OV.f0 6 rfl T.u32 rfl) rfl ?_;trace "ALT Jby#6 13d2c21b 0")
  | (refine WL.val (OV.cu (off:=6) rfl T.u32 rfl) rfl ?_;trace "ALT Jby#6 13d2c21b 1")
  refine Zv (OV.l1 (v:=.slice g2.ta g2.ts.length g2.tc) rfl T.u30 rfl (xB _ yH) rfl) ?_
  first
  | (refine WL.val (OV.ae rfl T.u30) rfl ?_;trace "ALT Jby#7 c04edde8 0")
  | (refine WL.val (OV.cy rfl T.u30) rfl ?_;trace "ALT Jby#7 c04edde8 1")
  refine Zv (OV.cq rfl rfl) (Nn ?_);refine Cc rfl (fun c107=>?_) (fun c107=>?_)
  ·refine Ck (Xn (Cs (Cb (Csr ?_))))
   first
   | (refine WL.val (OV.f0 6 rfl T.u32 rfl) rfl ?_;trace "ALT Jby#8 13d2c21b 0")
   | (refine WL.val (OV.cu (off:=6) rfl T.u32 rfl) rfl ?_;trace "ALT Jby#8 13d2c21b 1")
   refine Zv (OV.l1 (v:=.slice g2.ta g2.ts.length g2.tc) rfl T.u30 rfl (xB _ yH) rfl) (Zm rfl ?_);refine WL.jg (fun w' hw'=>((RC.of_items (show Sat w (fun _=>False) (fun b=>b<w1.heap.size∧∀ i∈([]:List Hw.Item),¬ i.D b) w1 (baseA k2++(oQ b15 (cgC g2) 32::(cgA g2++(oQ b90 (bL es.length (toldP q.cl la es i)) 4::(atsA ea ec es++(rowR laa lac la::la.map tgA)))))) w' from hw') (fun i hi=>xB _ (yV (xA _ hi)))).ts.get (i:=k) (by omega)).imp (fun q8 h=>h.imp (fun u h2=>(⟨h2.1,h2.2.1,h2.2.2.1⟩:g2.ta=some q8∧g2.ts[k]?=some u∧u∈g2.ts)))) (fun hqq=>?_);obtain ⟨q8,u,hq8,hu,hum⟩:=hqq;refine Zv ((OV.ad (show _=some (Value.slice (some q8) g2.ts.length g2.tc) by rw [← hq8];rfl) rfl T.u30 T.z61 (by omega)).cast (u:=.pointer (some (q8.add (k*7)))) (by rw [xN])) (Zv (OV.aj (cs:=tsC u) rfl T.u61 rfl T.z61 (fun w' hw' j v hj=>(RC.of_items (show Sat w (fun _=>False) (fun b=>b<w1.heap.size∧∀ i∈([]:List Hw.Item),¬ i.D b) w1 (baseA k2++(oQ b15 (cgC g2) 32::(cgA g2++(oQ b90 (bL es.length (toldP q.cl la es i)) 4::(atsA ea ec es++(rowR laa lac la::la.map tgA)))))) w' from hw') (fun i hi=>xB _ (yV (xA _ hi)))).ts.at_ _ hq8 k u hu j v hj)) (WL.aw (v:=.tuple #[.bool true,.bool true]) (by kernel_rfl) rfl rfl (fun w' hw'=>(decide_calls u w').mono (fun en w'' ⟨h8,h9⟩=>⟨by rw [h8,htests u hum],h9⟩)) ?_));refine Zm rfl (Zv (OV.extract rfl rfl) (Zv (OV.extract rfl rfl) (Za rfl (Za rfl (Nn (Csr (Zm rfl (Zv (OV.not rfl) (Zm rfl (WL.known (t:=121) (b:=false) rfl (by rfl) ?_))))))))));refine yY (Zm rfl (yY (Zv (OV.not rfl) (Zv (OV.ak rfl rfl) (Nn (WC.bu (show _=some (Value.bool false) from by rfl) ?_))))));refine Ck (Xb (Xn (Cr (Zm rfl (Zv (OV.bm (j:=1) rfl rfl (by omega)) (Za rfl (Nl ?_)))))));exact WX.bi (k+1) Y9 (fun w' hw=>⟨by omega,hw⟩) (by show g2.ts.length - (k+1)<g2.ts.length - k;omega)
  refine Ce (Xe (Xe (Xh (Xn (Cs (Csr (Za rfl (Nn (Cb ?_)))))))));have hsol:=hsol0
  have hbl2:g2.bd.length≤8:=by
   have h9:g2.bd.map AG.x=q.cl.bd.map (mapA (instT y.l)):=congrArg Cl.bd hg2;have h8:=congrArg List.length h9;rw [xE,xE] at h8;rw [h8];exact hv.bl
  refine WC.cg (fun (k:Nat)=>[(2,.int .i64 (leadI lead)),(7,yZ b7),(8,ptr ph1),(9,.slice laa la.length lac),(11,.slice ea es.length ec),(13,.slice (some ⟨b90,0,none⟩) es.length es.length),(14,.int .i64 (i:Int)),(15,yZ b15),(19,.int .i64 (k:Int))])
    (fun k w'=>k≤g2.bd.length∧Sat w (fun _=>False) (fun b=>b<w1.heap.size∧∀ i∈([]:List Hw.Item),¬ i.D b) w1 (baseA k2++(oQ b15 (cgC g2) 32::(cgA g2++(oQ b90 (bL es.length (toldP q.cl la es i)) 4::(atsA ea ec es++(rowR laa lac la::la.map tgA)))))) w')
    (fun k=>g2.bd.length - k) 0 Y9 (fun w' hw=>⟨by omega,hw⟩) ?_
  intro k;refine WC.pure (fun hk=>?_);refine Cs (Csr (Zm rfl ?_))
  first
  | (refine WL.val (OV.f0 5 rfl T.u32 rfl) rfl ?_;trace "ALT Jby#9 75ec517c 0")
  | (refine WL.val (OV.cu (off:=5) rfl T.u32 rfl) rfl ?_;trace "ALT Jby#9 75ec517c 1")
  refine Zv (OV.l1 (v:=.slice g2.ba g2.bd.length g2.bc) rfl T.u22 rfl (xB _ yH) rfl) ?_
  first
  | (refine WL.val (OV.ae rfl T.u22) rfl ?_;trace "ALT Jby#10 c04edde8 0")
  | (refine WL.val (OV.cy rfl T.u22) rfl ?_;trace "ALT Jby#10 c04edde8 1")
  refine Zv (OV.cq rfl rfl) (Nn ?_);refine Cc rfl (fun c129=>?_) (fun c129=>?_)
  ·refine Ck (Xn (Cs (Cb (Csr (Zm rfl (Zm rfl (Zm rfl ?_)))))))
   first
   | (refine WL.val (OV.f0 5 rfl T.u32 rfl) rfl ?_;trace "ALT Jby#11 75ec517c 0")
   | (refine WL.val (OV.cu (off:=5) rfl T.u32 rfl) rfl ?_;trace "ALT Jby#11 75ec517c 1")
   refine Zv (OV.l1 (v:=.slice g2.ba g2.bd.length g2.bc) rfl T.u22 rfl (xB _ yH) rfl) (Zm rfl ?_);refine WL.jg (fun w' hw'=>((RC.of_items (show Sat w (fun _=>False) (fun b=>b<w1.heap.size∧∀ i∈([]:List Hw.Item),¬ i.D b) w1 (baseA k2++(oQ b15 (cgC g2) 32::(cgA g2++(oQ b90 (bL es.length (toldP q.cl la es i)) 4::(atsA ea ec es++(rowR laa lac la::la.map tgA)))))) w' from hw') (fun i hi=>xB _ (yV (xA _ hi)))).bd.get (i:=k) (by omega)).imp (fun q8 h=>h.imp (fun u h2=>(⟨h2.1,h2.2.1,h2.2.2.1⟩:g2.ba=some q8∧g2.bd[k]?=some u∧u∈g2.bd)))) (fun hqq=>?_);obtain ⟨q8,u,hq8,hu,hum⟩:=hqq;refine Zv ((OV.ad (show _=some (Value.slice (some q8) g2.bd.length g2.bc) by rw [← hq8];rfl) rfl T.u22 T.z29 (by omega)).cast (u:=.pointer (some (q8.add (k*5)))) (by rw [xN])) (Zv (OV.aj (cs:=agC u) rfl T.u29 rfl T.z29 (fun w' hw' j v hj=>(RC.of_items (show Sat w (fun _=>False) (fun b=>b<w1.heap.size∧∀ i∈([]:List Hw.Item),¬ i.D b) w1 (baseA k2++(oQ b15 (cgC g2) 32::(cgA g2++(oQ b90 (bL es.length (toldP q.cl la es i)) 4::(atsA ea ec es++(rowR laa lac la::la.map tgA)))))) w' from hw') (fun i hi=>xB _ (yV (xA _ hi)))).bd.at_ _ hq8 k u hu j v hj)) ?_);have hui:=inst_body hsol hg2 hu;obtain ⟨a0,ha0,hal⟩:=hui.2;have hu8:u.x.args.length≤8:=by rw [hal];exact hv.args ha0
   obtain ⟨m,hm,hmi⟩:=in_part hui.1;have hmf:factB u.x=true:=Jf8 _ hm
   refine WL.cT (ι:=Unit) (vs:=[ptr ph1,atV u.x u.a u.c]) (vv:=fun _=>.int .i64 (m:Int)) (pp:=fun _=>True) (baseA k2) (AA:=fun _=>baseA k2) rfl (fun w' hw' hH=>by
    have h9:=bpart_bs k2 _ _ bk2 u.x u.a u.c (by omega) (by have:=fact_name hmf;omega) w' (hN.keeps (snapK hw')) (fun hd=>absurd (snapB hw' _ hd) (Nat.not_le.2 hN.lt)) ((RC.of_items (show Sat w (fun _=>False) (fun b=>b<w1.heap.size∧∀ i∈([]:List Hw.Item),¬ i.D b) w1 (baseA k2++(oQ b15 (cgC g2) 32::(cgA g2++(oQ b90 (bL es.length (toldP q.cl la es i)) 4::(atsA ea ec es++(rowR laa lac la::la.map tgA)))))) w' from hw') (fun i hi=>xB _ (yV (xA _ hi)))).bd.args u hum) (fun q9 h7 _=>Sat.sepO hw' (i:=argA u) (yV (xA _ (yV (xA _ (yV (List.mem_map.2 ⟨u,hum,rfl⟩)))))) ⟨q9,h7,rfl⟩) hH;rw [pk2,if_pos hmf,Jjp bk2.nodup hm] at h9;exact h9.mono (fun en w'' ⟨h1,h2⟩=>⟨(),h1,trivial,h2⟩)) ?_
   rintro - -;refine WL.aw (v:=.bool true) (by kernel_rfl) rfl rfl (fun w' hw'=>(in_law k lead (m:Int) w').mono (fun en w'' ⟨h8,h9⟩=>⟨by rw [h8,hmi],h9⟩)) ?_;refine Zv (OV.not rfl) (Nn (WC.bu (show _=some (Value.bool false) from by rfl) ?_));refine Ck (Xb (Xn (Cr (Zm rfl (Zv (OV.bm (j:=1) rfl rfl (by omega)) (Za rfl (Nl ?_)))))));exact WX.bi (k+1) Y9 (fun w' hw=>⟨by omega,hw⟩) (by show g2.bd.length - (k+1)<g2.bd.length - k;omega)
  refine Ce (Xe (Xe (Xh (Xn (Cs ?_)))));have hsol:Sol (FFs (Jdd (mfL f.o n) (mfL f.n n) (mfL f.x n)) lead) q.cl (nV q.cl) y.l:=(ela _).1 (List.mem_map.2 ⟨y,xC hyy,rfl⟩);have hgx:g2.hd.x=headI q.cl y.l:=congrArg Cl.hd hg2;obtain ⟨py,hpm,hpr⟩:=List.mem_map.1 ((ees (headI q.cl y.l)).2 ⟨y.l,hsol,rfl⟩);obtain ⟨p,hp⟩:=List.mem_iff_getElem?.1 hpm;have hpl:=(List.getElem?_eq_some_iff.1 hp).1;refine Cr (Zm rfl ?_)
  first
  | (refine WL.val (OV.f0 0 rfl T.u32 rfl) rfl ?_;trace "ALT Jby#12 182ae830 0")
  | (refine WL.val (OV.cu (off:=0) rfl T.u32 rfl) rfl ?_;trace "ALT Jby#12 182ae830 1")
  refine Zv (OV.aj (cs:=agC g2.hd) rfl T.u29 rfl T.z29 (fun _ hw j v hj=>by rw [Jan];exact Jbs hw (xB _ yH) (o:=0) (cs':=agC g2.hd) rfl j v hj)) (WL.c0 (v:=.int .i64 (p:Int)) (vs:=[.slice ea es.length ec,atV g2.hd.x g2.hd.a g2.hd.c]) (fun w' hw'=>Jir es ea ec ses (by omega) (fun y hy=>by have:=hes8 y hy;omega) g2.hd.x g2.hd.a g2.hd.c (by rw [hgx,Jl1];have:=(chkA_zero.1 hv.hd).2.1;omega) p py hp (by rw [hpr,hgx]) w' (RA.of_row (show Sat w (fun _=>False) (fun b=>b<w1.heap.size∧∀ i∈([]:List Hw.Item),¬ i.D b) w1 (baseA k2++(oQ b15 (cgC g2) 32::(cgA g2++(oQ b90 (bL es.length (toldP q.cl la es i)) 4::(atsA ea ec es++(rowR laa lac la::la.map tgA)))))) w' from hw') (fun i hi=>xB _ (yV (xB _ (yV (xA _ hi)))))) (RC.of_items (show Sat w (fun _=>False) (fun b=>b<w1.heap.size∧∀ i∈([]:List Hw.Item),¬ i.D b) w1 (baseA k2++(oQ b15 (cgC g2) 32::(cgA g2++(oQ b90 (bL es.length (toldP q.cl la es i)) 4::(atsA ea ec es++(rowR laa lac la::la.map tgA)))))) w' from hw') (fun i hi=>xB _ (yV (xA _ hi)))).hd) ?_);refine Za rfl (Nn (Cs (Csr (Zm rfl (Zv ((OV.cq rfl rfl).cast (u:=.bool false) (congrArg Value.bool (xP (by omega)))) (Nn (WC.bu (show _=some (Value.bool false) from by rfl) ?_)))))));refine Ck (Xn (Cr (Zm rfl (Zm rfl (Zv ((OV.da rfl rfl T.u68 T.z4 (by omega)).cast (u:=.pointer (some ⟨b90,p,none⟩)) (by rw [xN,xM])) (WL.focus (ow':=oQ b90 (bL es.length (toldP q.cl la es i)) 4::(baseA k2++(oQ b15 (cgC g2) 32::(cgA g2++(atsA ea ec es++(rowR laa lac la::la.map tgA)))))) (pmC [baseA k2,[oQ b15 (cgC g2) 32],cgA g2,[oQ b90 (bL es.length (toldP q.cl la es i)) 4],(atsA ea ec es++(rowR laa lac la::la.map tgA))] [3,0,1,2,4]) ?_))))));refine WL.bv (o:=p) rfl rfl rfl T.z4 (by rw [Jog];omega) ?_;rw [bL_set hpl (toldP_step hyy ses hp (by rw [hpr]))];refine Nl (Xb (Xn (Cr (Zm rfl (Zv (OV.bm (j:=1) rfl rfl (by omega)) (Za rfl (Nl ?_)))))));exact WX.bi (i+1) Y7 (fun w' hw=>⟨by omega,hw.pik [[oQ b90 (bL es.length (toldP q.cl la es (i+1))) 4],baseA k2,[oQ b15 (cgC g2) 32],cgA g2,atsA ea ec es++(rowR laa lac la::la.map tgA)] [1,0,4] 5⟩) (by show la.length - (i+1)<la.length - i;omega)
 refine Ce (Xe (Xe (Xh (Xn (Cs (Cs ?_))))));obtain rfl:i=la.length:=by omega
 have htold:∀ k,k<es.length→toldP q.cl la es la.length k=true:=fun k hk=>toldP_all (fun x hx=>by
  obtain ⟨r,hr,he⟩:=(ees x).1 hx;exact ⟨r,(ela r).2 hr,he⟩) hk
 refine Cr (Za rfl (Nn (Cb ?_)))
 refine WC.cg (fun (k:Nat)=>[(11,.slice ea es.length ec),(13,.slice (some ⟨b90,0,none⟩) es.length es.length),(21,.int .i64 (k:Int))])
   (fun k w'=>k≤es.length∧Sat w (fun _=>False) (fun b=>b<w1.heap.size∧∀ i∈([]:List Hw.Item),¬ i.D b) w1 (baseA k2++(oQ b90 (bL es.length (toldP q.cl la es la.length)) 4::(atsA ea ec es++(rowR laa lac la::la.map tgA)))) w')
   (fun k=>es.length - k) 0 Y3 (fun w' hw=>⟨by omega,hw⟩) ?_
 intro k;refine WC.pure (fun hk=>?_);refine Cs (Csr (Zm rfl (Zm rfl ?_)))
 first
 | (refine WL.val (OV.ae rfl T.u22) rfl ?_;trace "ALT Jby#13 c04edde8 0")
 | (refine WL.val (OV.cy rfl T.u22) rfl ?_;trace "ALT Jby#13 c04edde8 1")
 refine Zv (OV.cq rfl rfl) (Nn ?_);refine Cc rfl (fun c155=>?_) (fun c155=>?_)
 ·refine Ck (Xn (Cs (Cb (Cs ?_))));have hkl:k<es.length:=by omega
  refine WC.kz (fun w' hw'=>((RA.of_row (show Sat w (fun _=>False) (fun b=>b<w1.heap.size∧∀ i∈([]:List Hw.Item),¬ i.D b) w1 (baseA k2++(oQ b90 (bL es.length (toldP q.cl la es la.length)) 4::(atsA ea ec es++(rowR laa lac la::la.map tgA)))) w' from hw') (fun i hi=>xB _ (yV (xA _ hi)))).get (i:=k) hkl).imp (fun q8 h=>h.imp (fun u h2=>(⟨h2.1,h2.2.1,h2.2.2.1⟩:ea=some q8∧es[k]?=some u∧u∈es)))) (fun hqq=>?_);obtain ⟨q8,u,hq8,hu,hum⟩:=hqq;obtain ⟨z,hz⟩:∃ z,es[k - 1]?=some z:=⟨_,xD (by omega)⟩
  refine Hd (fun w'=>RA w' ea es∧w'.cell? ⟨b90,k,none⟩=some (.bool true)) [] (fun w' hw'=>⟨RA.of_row (show Sat w (fun _=>False) (fun b=>b<w1.heap.size∧∀ i∈([]:List Hw.Item),¬ i.D b) w1 (baseA k2++(oQ b90 (bL es.length (toldP q.cl la es la.length)) 4::(atsA ea ec es++(rowR laa lac la::la.map tgA)))) w' from hw') (fun i hi=>xB _ (yV (xA _ hi))),Jbh (show Sat w (fun _=>False) (fun b=>b<w1.heap.size∧∀ i∈([]:List Hw.Item),¬ i.D b) w1 (baseA k2++(oQ b90 (bL es.length (toldP q.cl la es la.length)) 4::(atsA ea ec es++(rowR laa lac la::la.map tgA)))) w' from hw') (xB _ yH) k _ (by rw [Jnt hkl,htold k hkl])⟩) (m:=22) rfl ?_;refine Hf 0 rfl (OV.au rfl) (Hf 1 rfl (OV.jw rfl rfl) (Hf 2 rfl (OV.au rfl) ?_));refine Hp (t:=160) rfl (fun g160=>?_) (fun g160=>?_)
  ·refine Hfg 3 rfl rfl rfl rfl (OV.au rfl) (Hfg 4 rfl rfl rfl rfl (OV.au rfl) (Hfg 5 rfl rfl rfl rfl ((OV.k7 rfl rfl (by omega)).cast (u:=.int .i64 ((k - 1:Nat):Int)) (by congr 1;omega)) (Hfg 6 rfl rfl rfl rfl ((OV.ad (show _=some (Value.slice (some q8) es.length ec) by rw [← hq8];rfl) rfl T.u22 T.z29 (by omega)).cast (u:=.pointer (some (q8.add ((k - 1)*5)))) (by rw [xN])) (Htg 7 rfl rfl rfl rfl (OV.aj (cs:=agC z) rfl T.u29 rfl T.z29 (fun w' hw' j v hj=>hw'.1.at_ _ hq8 (k - 1) z hz j v hj)) (Hfg 8 rfl rfl rfl rfl (OV.au rfl) (Hfg 9 rfl rfl rfl rfl (OV.au rfl) (Hfg 10 rfl rfl rfl rfl ((OV.ad (show _=some (Value.slice (some q8) es.length ec) by rw [← hq8];rfl) rfl T.u22 T.z29 (by omega)).cast (u:=.pointer (some (q8.add (k*5)))) (by rw [xN])) (Htg 11 rfl rfl rfl rfl (OV.aj (cs:=agC u) rfl T.u29 rfl T.z29 (fun w' hw' j v hj=>hw'.1.at_ _ hq8 k u hu j v hj)) (Ho 12 rfl (fl':=false) rfl ?_)))))))));refine yY (WL.aw (v:=.int .i64 (cmpA z.x u.x)) (by kernel_rfl) rfl rfl (fun w' hw'=>Jgv z.x u.x z.a u.a z.c u.c (by have:=hes8 z (xC hz);omega) (by have:=hes8 u hum;omega) w' ((RA.of_row (show Sat w (fun _=>False) (fun b=>b<w1.heap.size∧∀ i∈([]:List Hw.Item),¬ i.D b) w1 (baseA k2++(oQ b90 (bL es.length (toldP q.cl la es la.length)) 4::(atsA ea ec es++(rowR laa lac la::la.map tgA)))) w' from hw') (fun i hi=>xB _ (yV (xA _ hi)))).args z (xC hz)) ((RA.of_row (show Sat w (fun _=>False) (fun b=>b<w1.heap.size∧∀ i∈([]:List Hw.Item),¬ i.D b) w1 (baseA k2++(oQ b90 (bL es.length (toldP q.cl la es la.length)) 4::(atsA ea ec es++(rowR laa lac la::la.map tgA)))) w' from hw') (fun i hi=>xB _ (yV (xA _ hi)))).args u hum)) ?_);refine Hc (fun _=>(fun w' hw'=>⟨RA.of_row (show Sat w (fun _=>False) (fun b=>b<w1.heap.size∧∀ i∈([]:List Hw.Item),¬ i.D b) w1 (baseA k2++(oQ b90 (bL es.length (toldP q.cl la es la.length)) 4::(atsA ea ec es++(rowR laa lac la::la.map tgA)))) w' from hw') (fun i hi=>xB _ (yV (xA _ hi))),Jbh (show Sat w (fun _=>False) (fun b=>b<w1.heap.size∧∀ i∈([]:List Hw.Item),¬ i.D b) w1 (baseA k2++(oQ b90 (bL es.length (toldP q.cl la es la.length)) 4::(atsA ea ec es++(rowR laa lac la::la.map tgA)))) w' from hw') (xB _ yH) k _ (by rw [Jnt hkl,htold k hkl])⟩)) ?_;refine Hfg 13 rfl rfl rfl rfl ((OV.ij rfl rfl).cast (u:=.bool false) (congrArg Value.bool (xP (by have:=Jmn ses hz hu (by omega:k - 1<k);omega)))) (Hf 14 rfl (OV.ao rfl rfl) (Hf 15 rfl (OV.au rfl) (Hk (t:=173) (b:=false) rfl (by rfl) ?_)));refine Hfg 16 rfl rfl rfl rfl (OV.au rfl) (Hfg 17 rfl rfl rfl rfl (OV.au rfl) (Hfg 18 rfl rfl rfl rfl ((OV.da rfl rfl T.u68 T.z4 (by omega)).cast (u:=.pointer (some ⟨b90,k,none⟩)) (by rw [xN,xM])) (Htg 19 rfl rfl rfl rfl (OV.ai (v:=.bool true) rfl T.u4 rfl (fun w' hw'=>hw'.2)) (Hfg 20 rfl rfl rfl rfl (OV.not rfl) (Hf 21 rfl (OV.ak rfl rfl) (He (Xn (WC.bu (show _=some (Value.bool false) from by rfl) ?_))))))));refine Ck (Xb (Xn (Cr (Zm rfl (Zv (OV.bm (j:=1) rfl rfl (by omega)) (Za rfl (Nl ?_)))))));exact WX.bi (k+1) Y3 (fun w' hw=>⟨by omega,hw⟩) (by show es.length - (k+1)<es.length - k;omega)
  refine Hs 3 rfl rfl rfl rfl (Hs 4 rfl rfl rfl rfl (Hs 5 rfl rfl rfl rfl (Hs 6 rfl rfl rfl rfl (Hs 7 rfl rfl rfl rfl (Hs 8 rfl rfl rfl rfl (Hs 9 rfl rfl rfl rfl (Hs 10 rfl rfl rfl rfl (Hs 11 rfl rfl rfl rfl (Ho 12 rfl (fl':=false) rfl ?_)))))))));refine yX (Hc (fun _=>(fun w' hw'=>⟨RA.of_row (show Sat w (fun _=>False) (fun b=>b<w1.heap.size∧∀ i∈([]:List Hw.Item),¬ i.D b) w1 (baseA k2++(oQ b90 (bL es.length (toldP q.cl la es la.length)) 4::(atsA ea ec es++(rowR laa lac la::la.map tgA)))) w' from hw') (fun i hi=>xB _ (yV (xA _ hi))),Jbh (show Sat w (fun _=>False) (fun b=>b<w1.heap.size∧∀ i∈([]:List Hw.Item),¬ i.D b) w1 (baseA k2++(oQ b90 (bL es.length (toldP q.cl la es la.length)) 4::(atsA ea ec es++(rowR laa lac la::la.map tgA)))) w' from hw') (xB _ yH) k _ (by rw [Jnt hkl,htold k hkl])⟩)) ?_);refine Hs 13 rfl rfl rfl rfl (Hf 14 rfl (OV.ak rfl rfl) (Hf 15 rfl (OV.au rfl) (Hfg 16 rfl rfl rfl rfl (OV.au rfl) (Hfg 17 rfl rfl rfl rfl (OV.au rfl) (Hfg 18 rfl rfl rfl rfl ((OV.da rfl rfl T.u68 T.z4 (by omega)).cast (u:=.pointer (some ⟨b90,k,none⟩)) (by rw [xN,xM])) (Htg 19 rfl rfl rfl rfl (OV.ai (v:=.bool true) rfl T.u4 rfl (fun w' hw'=>hw'.2)) (Hfg 20 rfl rfl rfl rfl (OV.not rfl) (Hf 21 rfl (OV.ak rfl rfl) (He (Xn (WC.bu (show _=some (Value.bool false) from by rfl) ?_)))))))))));refine Ck (Xb (Xn (Cr (Zm rfl (Zv (OV.bm (j:=1) rfl rfl (by omega)) (Za rfl (Nl ?_)))))));exact WX.bi (k+1) Y3 (fun w' hw=>⟨by omega,hw⟩) (by show es.length - (k+1)<es.length - k;omega)
 refine Ce (Xe (Xe (Xh (Xn (Csr (Za rfl (Nn (WC.bg ?_))))))));exact WX.ret1 rfl rfl rfl (fun w' hw=>⟨rfl,hw.fr⟩)
theorem planMeans_calls (f:FG)(ho:FS f.o)(hnn:FS f.n)(hx:FS f.x)(g:CG)(hs:∀ y,y=g.hd∨y∈g.bd→y.x.args.length≤1048576∧y.x.name.size≤1099511627776)(hbl:g.bd.length≤1048576)(htl:g.ts.length≤1048576)(lead:Int)(w:World)(hN:Jc2 w)(hC:Jge w)(hr:RF w f)(hrg:RC w g):Calls Tryz.prog 6 #[.agg (fgC f).toArray,cgV g,.int .i64 lead] w fun e w'=>e=.returned (.bool true)∧Fr0 w w':=by
 by_cases h1:lead < -1∨((madeC g.cl).bd.length:Int)≤lead
 ·exact Jds f ho hnn hx g hs hbl htl lead h1 w hN hC hr hrg
 ·by_cases h2:lead=-1
  ·have h3:=Jby f ho hnn hx g hs hbl htl none (fun l hl=>by cases hl) w hN hC hr hrg;rw [h2];exact h3
  ·have h3:=Jby f ho hnn hx g hs hbl htl (some lead.toNat) (fun l hl=>by cases hl;omega) w hN hC hr hrg;have h4:leadI (some lead.toNat)=lead:=by show ((lead.toNat:Nat):Int)=lead;omega
   rw [h4] at h3;exact h3
end Go.Proofs.YtgebaodagaecmaaGreatDoor
