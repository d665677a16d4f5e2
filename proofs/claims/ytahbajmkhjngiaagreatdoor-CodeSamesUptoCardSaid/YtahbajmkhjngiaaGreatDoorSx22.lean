/-
  Code: Same, the reference's.
-/
import Derived.Test.YtahbajmkhjngiaaGreatDoorSx21
import Derived.Deep.DeepCutAuto
set_option linter.all false
set_option maxRecDepth 100000
set_option maxHeartbeats 8000000
namespace Go.Proofs.YtahbajmkhjngiaaGreatDoor
open Go.Proofs.Tryz
open Go.RowKit
theorem D1{u v:Un}(h1:u.name=v.name)(h2:u.row=v.row)(h3:u.code=v.code):u=v:=by
 obtain⟨_,_,_⟩:=u;obtain⟨_,_,_⟩:=v;simp at h1 h2 h3;rw[h1,h2,h3]
theorem Bt{w:World}{va vb:Value}{us vs:List Un}{ok ok':Nat→Prop}(h:VU ok w va us)(k0:VU ok' w vb vs):
 Calls Tryz.prog 7 #[va,vb] w fun e w'=>e= .returned (.bool (decide (us=vs)))∧w.grownBy w' none:=by
 obtain⟨a,cap,rfl,hle,hmx,hat⟩:=h.open;obtain⟨b,capb,rfl,hleb,hmxb,hatb⟩:=k0.open;have hlm:us.length≤9223372036854775807:=by unfold maxLen at hmx;omega
 have hmm:vs.length≤9223372036854775807:=by unfold maxLen at hmxb;omega
 have HA:=D (I hat hatb);clear hat hatb hle hmx hleb hmxb h k0;by_cases hl:us.length=vs.length
 ·have HL:=D hl;have i0:((us.length:Int) !=(vs.length:Int))=false:=by simp;omega
  have i1:((us.length:Int)==(vs.length:Int))=true:=by simp;omega
  clear hl;go_enter func7,ntmps7;go_wp2_with fail;go_loopg [5,6,7,8,9] us.length (fun g v5 v6 v7 v8 v9 wr=>∃k:Nat,k+g=us.length∧v5= .int .i64 k∧us.take k=vs.take k∧w.grownBy wr none)
  case atStart=>exact⟨0,by omega,rfl,rfl,N _ _⟩
  case round=>
   obtain⟨k,hk,rfl,ht,hG⟩:=hrel;cases gk with
   | zero=>
     have hkl:k=us.length:=by omega
     have hj1:decide (k<us.length)=false:=by simp;omega
     have HE:=D (I (AC HL.out (by rw[←hkl];exact ht)) hG);clear ht hG;subst hkl;go_wp2;go_ret;exact⟨by rw[decide_eq_true HE.out.1];rfl,HE.out.2⟩
   | succ gk=>
     have hkl:k<us.length:=by omega
     have hkm:k<vs.length:=by have:=HL.out;omega
     have hj1:decide (k<us.length)=true:=by simp;omega
     obtain⟨u,hx⟩:∃x,us[k]? =some x:=⟨_,X hkl⟩;obtain⟨v,hy⟩:∃y,vs[k]? =some y:=⟨_,X hkm⟩;obtain⟨ga,oa,ra,rc,ca,cc,rfl,_,la,a0,a1,a2,a3,a4⟩:=HA.out.1 k u hx;obtain⟨gb,ob,rb,rd,cb,cd,rfl,_,lb,b0,b1,b2,b3,b4⟩:=HA.out.2 k v hy;have d0:=J hG a0;have d1:=J hG a1;have d2:=J hG a2;have e0:=J hG b0;have e1:=J hG b1;have e2:=J hG b2;have hsz:=hG.size;have la2:ga<wr.heap.size:=by omega
     have lb2:gb<wr.heap.size:=by omega
     have HT:=D (I ht (I hG (I hx hy)));have HC:=D (I a3 (I a4 (I b3 b4)));clear a0 a1 a2 a3 a4 b0 b1 b2 b3 b4 ht hG hx hy;go_upto_region 6 with fail;go_cut [6,7] (fun v6 v7 wx=>∃x y:Nat,v6= .pointer (some ⟨x,0,none⟩)∧v7= .pointer (some ⟨y,0,none⟩)∧Blk wx x [str u.name,.slice ra u.row.length rc,.slice ca u.code.length cc] 33∧Blk wx y [str v.name,.slice rb v.row.length rd,.slice cb v.code.length cd] 33∧wr.grownBy wx none)
     case first=>
      go_region_with(fail);all_goals
       go_wp2_with fail;go_meet;first
        |exact⟨_,_,rfl,rfl,((Blk.new wr [str u.name,.slice ra u.row.length rc,.slice ca u.code.length cc] 33).alloc _).drew,((Blk.new (wr.alloc (.cells [str u.name,.slice ra u.row.length rc,.slice ca u.code.length cc].toArray 33 (0,0))) [str v.name,.slice rb v.row.length rd,.slice cb v.code.length cd] 33).of_eq (show _=wr.heap.size+1 by simp) rfl).drew,Ae (Y (Y (N _ _) _) _)⟩
        |exact⟨_,_,rfl,rfl,((Blk.new (wr.alloc (.cells [str v.name,.slice rb v.row.length rd,.slice cb v.code.length cd].toArray 33 (0,0))) [str u.name,.slice ra u.row.length rc,.slice ca u.code.length cc] 33).of_eq (show _=wr.heap.size+1 by simp) rfl).drew,((Blk.new wr [str v.name,.slice rb v.row.length rd,.slice cb v.code.length cd] 33).alloc _).drew,Ae (Y (Y (N _ _) _) _)⟩
     case rest=>
      obtain⟨x,y,rfl,rfl,hbx,hby,hgx⟩:=hcut;have HG:=D (I hbx (I hby (M HT.out.2.1 hgx)));have x0:=hbx.cell 0;have x1:=hbx.cell 1;have x2:=hbx.cell 2;have y0:=hby.cell 0;have y1:=hby.cell 1;have y2:=hby.cell 2;have HGX:=D hgx;clear hbx hby hgx;by_cases hn:u.name=v.name;rotate_left
      ·have j0:(u.name==v.name)=false:=by simpa using hn
       have j1:(u.name !=v.name)=true:=by simpa using hn
       have HF:=D (Ax HT.out.2.2.1 HT.out.2.2.2 (fun e=>hn (by rw[e])));clear hn;go_wp2;go_ret;exact⟨by rw[decide_eq_false HF.out];rfl,HG.out.2.2⟩
      have j0:(u.name==v.name)=true:=by simpa using hn
      have j1:(u.name !=v.name)=false:=by simpa using hn
      by_cases hr:u.row.length=v.row.length;rotate_left
      ·have j2:((u.row.length:Int)==(v.row.length:Int))=false:=by simp;omega
       have j3:((u.row.length:Int) !=(v.row.length:Int))=true:=by simp;omega
       have HF:=D (Ax HT.out.2.2.1 HT.out.2.2.2 (fun e=>hr (by rw[e])));clear hn hr;go_wp2;go_ret;exact⟨by rw[decide_eq_false HF.out];rfl,HG.out.2.2⟩
      have j2:((u.row.length:Int)==(v.row.length:Int))=true:=by simp;omega
      have j3:((u.row.length:Int) !=(v.row.length:Int))=false:=by simp;omega
      by_cases hc:u.code.length=v.code.length;rotate_left
      ·have j4:((u.code.length:Int)==(v.code.length:Int))=false:=by simp;omega
       have j5:((u.code.length:Int) !=(v.code.length:Int))=true:=by simp;omega
       have HF:=D (Ax HT.out.2.2.1 HT.out.2.2.2 (fun e=>hc (by rw[e])));clear hn hr hc;go_wp2;go_ret;exact⟨by rw[decide_eq_false HF.out];rfl,HG.out.2.2⟩
      have j4:((u.code.length:Int)==(v.code.length:Int))=true:=by simp;omega
      have j5:((u.code.length:Int) !=(v.code.length:Int))=false:=by simp;omega
      have m1:u.row.length≤9223372036854775807:=by obtain⟨_,_,e,h3,h4,_⟩:=HC.out.1;cases e;unfold maxLen at h4;omega
      have m2:u.code.length≤9223372036854775807:=by obtain⟨_,_,e,h3,h4,_⟩:=HC.out.2.1;cases e;unfold maxLen at h4;omega
      have HN:=D (I hn (I hr hc));clear hn hr hc;go_wp2_with fail;go_loopg [8] u.row.length (fun g v8 w2=>∃j:Nat,j+g=u.row.length∧v8= .int .i64 j∧u.row.take j=v.row.take j∧wc.grownBy w2 none)
      case atStart=>exact⟨0,by omega,rfl,rfl,N _ _⟩
      case round=>
       obtain⟨j,hj,rfl,hjt,hg2⟩:=hrel;have z1:=(HG.out.1.gb hg2 (by simp)).cell 1;have z2:=(HG.out.1.gb hg2 (by simp)).cell 2;have t1:=(HG.out.2.1.gb hg2 (by simp)).cell 1;by_cases hjl:j<u.row.length
       ·have hjI:decide (j<u.row.length)=true:=by simpa using hjl
        have hjm:j<v.row.length:=by have:=HN.out.2.1;omega
        obtain⟨p,hp⟩:∃p,u.row[j]? =some p:=⟨_,X hjl⟩;obtain⟨q,hq⟩:∃q,v.row[j]? =some q:=⟨_,X hjm⟩;obtain⟨gp,op,rfl,_,_,cp⟩:=HC.out.1.int hp;obtain⟨gq,oq,rfl,_,_,cq⟩:=HC.out.2.2.1.int hq;have gw2:=M HG.out.2.2 hg2;have dp:=J gw2 cp;have dq:=J gw2 cq;clear cp cq;by_cases hpq:p=q
        ·subst hpq;have l1:(p==p)=true:=by simp
         have l2:(p !=p)=false:=by simp
         have HE:=D (I (AG hjt hp hq) hg2);clear hjt hg2 hp hq gw2;go_wp2_with fail;go_quiet(fail);go_wp2;go_roundg (u.row.length-(j+1))
         case measure=>omega
         case rel=>exact⟨j+1,by omega,by go_num,HE.out.1,Af HE.out.2 _⟩
        ·have l1:(p==q)=false:=by simpa using hpq
         have l2:(p !=q)=true:=by simpa using hpq
         have HF:=D (I (Ax HT.out.2.2.1 HT.out.2.2.2 (fun e=>Ax hp hq hpq (by rw[e]))) gw2);clear hjt hg2 hp hq hpq gw2;go_wp2_with fail;go_quiet(fail);go_wp2;go_ret;exact⟨by rw[decide_eq_false HF.out.1];rfl,Af HF.out.2 _⟩
       ·have hjI:decide (j<u.row.length)=false:=by simpa using hjl
        have hje:j=u.row.length:=by omega
        have HR:=D (I (AC HN.out.2.1 (by rw[←hje];exact hjt)) hg2);clear hjt hg2;subst hje;go_wp2_with fail;go_loopg [9] u.code.length (fun g v9 w3=>∃i:Nat,i+g=u.code.length∧v9= .int .i64 i∧u.code.take i=v.code.take i∧wc.grownBy w3 none)
        case atStart=>exact⟨0,by omega,rfl,rfl,HR.out.2⟩
        case round=>
         obtain⟨i,hi,rfl,hit,hg3⟩:=hrel;have q2:=(HG.out.1.gb hg3 (by simp)).cell 2;have r2:=(HG.out.2.1.gb hg3 (by simp)).cell 2;by_cases hil:i<u.code.length
         ·have hiI:decide (i<u.code.length)=true:=by simpa using hil
          have him:i<v.code.length:=by have:=HN.out.2.2;omega
          obtain⟨p,hp⟩:∃p,u.code[i]? =some p:=⟨_,X hil⟩;obtain⟨q,hq⟩:∃q,v.code[i]? =some q:=⟨_,X him⟩;obtain⟨gp,op,rfl,_,_,p0,p1,p2,p3⟩:=HC.out.2.1.cd hp;obtain⟨gq,oq,rfl,_,_,s0,s1,s2,s3⟩:=HC.out.2.2.2.cd hq;have gw3:=M HG.out.2.2 hg3;have a0:=J gw3 p0;have a1:=J gw3 p1;have a2:=J gw3 p2;have a3:=J gw3 p3;have b0:=J gw3 s0;have b1:=J gw3 s1;have b2:=J gw3 s2;have b3:=J gw3 s3;clear p0 p1 p2 p3 s0 s1 s2 s3;obtain⟨f0,f1,f2,f3⟩:=p;obtain⟨h0,h1,h2,h3⟩:=q;by_cases hpq:(⟨f0,f1,f2,f3⟩:Cd)=⟨h0,h1,h2,h3⟩
          ·cases hpq;have HE:=D (I (AG hit hp hq) hg3);clear hit hg3 hp hq gw3;go_wp2_with fail;go_quiet(fail);go_wp2;go_roundg (u.code.length-(i+1))
           case measure=>omega
           case rel=>exact⟨i+1,by omega,by go_num,HE.out.1,Af HE.out.2 _⟩
          ·have HF:=D (I (Ax HT.out.2.2.1 HT.out.2.2.2 (fun e=>Ax hp hq hpq (by rw[e]))) gw3);clear hit hg3 hp hq gw3;by_cases e0:f0=h0
           ·by_cases e1:f1=h1
            ·by_cases e2:f2=h2
             ·have e3:¬f3=h3:=fun e=>hpq (by rw[e0,e1,e2,e]);have g3:(f3==h3)=false:=by simpa using e3
              subst e0 e1 e2;clear hpq;go_wp2_with fail;go_quiet(fail);go_wp2;go_ret;exact⟨by rw[decide_eq_false HF.out.1];rfl,Af HF.out.2 _⟩
             ·have g2:(f2==h2)=false:=by simpa using e2
              subst e0 e1;clear hpq;go_wp2_with fail;go_quiet(fail);go_wp2;go_ret;exact⟨by rw[decide_eq_false HF.out.1];rfl,Af HF.out.2 _⟩
            ·have g1:(f1==h1)=false:=by simpa using e1
             subst e0;clear hpq;go_wp2_with fail;go_quiet(fail);go_wp2;go_ret;exact⟨by rw[decide_eq_false HF.out.1];rfl,Af HF.out.2 _⟩
           ·have g0:(f0==h0)=false:=by simpa using e0
            clear hpq;go_wp2_with fail;go_quiet(fail);go_wp2;go_ret;exact⟨by rw[decide_eq_false HF.out.1];rfl,Af HF.out.2 _⟩
         ·have hiI:decide (i<u.code.length)=false:=by simpa using hil
          have hie:i=u.code.length:=by omega
          have HK:=D (I (D1 HN.out.1 HR.out.1 (AC HN.out.2.2 (by rw[←hie];exact hit))) (M HG.out.2.2 hg3));clear hit hg3;go_wp2;go_roundg (us.length-(k+1))
          case measure=>omega
          case rel=>exact⟨k+1,by omega,by go_num,AG HT.out.1 HT.out.2.2.1 (by rw[HK.out.1];exact HT.out.2.2.2),HK.out.2⟩
 ·have HE:=D (show us≠vs by rintro rfl;exact hl rfl);have i0:((us.length:Int) !=(vs.length:Int))=true:=by simp;omega
  have i1:((us.length:Int)==(vs.length:Int))=false:=by simp;omega
  go_enter func7,ntmps7;go_wp2;go_ret;exact⟨by rw[decide_eq_false HE.out];rfl,N _ _⟩
end Go.Proofs.YtahbajmkhjngiaaGreatDoor
