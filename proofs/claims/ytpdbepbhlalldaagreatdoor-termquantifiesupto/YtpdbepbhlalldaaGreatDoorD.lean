/- A part of the proof. -/
import Derived.Test.YtpdbepbhlalldaaGreatDoorA
import Derived.Test.YtpdbepbhlalldaaGreatDoorC
import Derived.Test.YtpdbepbhlalldaaGreatDoorB
set_option linter.all false
namespace Go.Ev.X
open Go Go.Ev
section
structure PR where
 i:Nat
 ah:Nat
 val:Hf->Prop
structure PB where
 i:Nat
 ah:Nat
 h:Hf
 h':Hf
def MR:List Rd->List PR->Prop
 | [],[]=>True
 | r::rs,p::P=>(r.i=p.i/\r.ah=p.ah/\∀H:Hp,p.val H.get->∃v H' n',simple r.op r.T H .h=some (v,H',n')/\dH v r.v=true)/\MR rs P
 | _,_=>False
def MB:List Bg->List PB->Prop
 | [],[]=>True
 | b::bs,p::B=>(b.i=p.i/\b.ah=p.ah/\b.H.get=p.h/\b.H'.get=p.h')/\MB bs B
 | _,_=>False
def ki(h:Hf)(ah:Nat):Made->Hf
 | []=>h
 | (k,i)::l=>bif Nat.testBit ah i then ki h ah l else ki (hp h k none) ah l
def qC(h h':Hf)(ah:Nat):Made->Hf
 | []=>h'
 | (k,i)::l=>bif Nat.testBit ah i then qC h h' ah l else qC h (hp h' k (h k)) ah l
theorem BQ(ah:Nat):∀(m:Made) (H:Hp),(ee H ah m).get=ki H.get ah m:=by
 intro m
 induction m with
 | nil=>intro H;rfl
 | cons p m ih=>
  intro H;obtain⟨k,i⟩:=p;simp only[ee,ki];cases Nat.testBit ah i with
  | true=>exact ih H
  | false=>simp only[cond_false];rw[ih,jr]
theorem La(ah:Nat)(H:Hp):∀(m:Made) (H':Hp),(back H H' ah m).get=qC H.get H'.get ah m:=by
 intro m
 induction m with
 | nil=>intro H';rfl
 | cons p m ih=>
  intro H';obtain⟨k,i⟩:=p;simp only[back,qC];cases Nat.testBit ah i with
  | true=>exact ih H'
  | false=>simp only[cond_false];rw[ih,jr]
def pv(m:Made)(p:PR)(b:PB):Prop:=
 bif Nat.testBit p.ah b.i||Nat.testBit b.ah p.i then True else p.val (ki b.h p.ah m)/\p.val (ki b.h' p.ah m)
def mn(m:Made)(p:PR):List PB->Prop
 | []=>True
 | b::B=>pv m p b/\mn m p B
def AG(m:Made):List PR->List PB->Prop
 | [],_=>True
 | p::P,B=>mn m p B/\AG m P B
theorem ac1{m:Made}:∀{rs:List Rd} {P:List PR} {bs:List Bg} {B:List PB},MR rs P->MB bs B->AG m P B->vT m rs bs=true:=by
 intro rs
 induction rs with
 | nil=>intro P bs B _ _ _;rfl
 | cons r rs ih=>
  intro P bs B hr hb hg;cases P with
  | nil=>exact hr.elim
  | cons p P=>
   obtain⟨⟨h1,h2,h3⟩,h4⟩:=hr;have:=ih h4 hb hg.2;simp only[vT,List.all_cons,bG]at this ⊢;refine⟨?_,this⟩;have key:∀{bs:List Bg} {B:List PB},MB bs B->mn m p B->(bs.all λb=>BB m r b)=true:=by
    intro bs
    induction bs with
    | nil=>intro B _ _;rfl
    | cons b bs rh=>
     intro B hb hg;cases B with
     | nil=>exact hb.elim
     | cons q B=>
      obtain⟨⟨g1,g2,g3,g4⟩,g5⟩:=hb;simp only[List.all_cons,bG];refine⟨?_,rh g5 hg.2⟩;have ha:=hg.1;unfold pv at ha;unfold BB;rw[h1,h2,g1,g2];cases hx:(Nat.testBit p.ah q.i||Nat.testBit q.ah p.i) with
      | true=>simp
      | false=>
       rw[hx]at ha;simp only[cond_false]at ha;have rd:∀H:Hp,p.val (ee H p.ah m).get->Dy r H m=true:=by intro H hv;obtain⟨v,H',n',e1,e2⟩:=h3 _ hv;unfold Dy;rw[h2,e1];exact e2
       rw[rd b.H (by rw[BQ,g3];exact ha.1),rd b.H' (by rw[BQ,g4];exact ha.2)];simp
   exact key hb hg.1
section
variable (C:Nat->Option bP)
def WD(l:List AO)(i:Nat)(E:Env)(h:Hf)(n:K)(m:Made)(P:List PR)(B:List PB)(Q:Env->Hf->K->Prop):Prop:=
 ∀T H rs bs,Le E T->H.get=h->MR rs P->MB bs B->∃T' H' n' E',(∃f0,∀f,f0<=f->fw (ev C f) l i T H n m rs bs=some ⟨.normal,T',.q,H',n'⟩)/\Le E' T'/\Q E' H'.get n'
end
section
variable {C:Nat->Option bP}{E:Env}{h:Hf}{n:K}{Q:Ex->Env->Hf->K->Prop}{q:Env->Hf->K->Prop}{m:Made}{P:List PR}{B:List PB}{i:Nat}{l:List AO}{d:Option K}{op:A}{ah:Nat}
theorem wj(hw:WD C l 0 E h n [] [] [] (λE h n=>Q .normal E h n)):WC C (.regd l) E h n Q:=by intro T H hT hH;obtain⟨T',H',n',E',⟨f0,h1⟩,h2,h3⟩:=hw T H [] [] hT hH trivial trivial;exact⟨⟨.normal,T',.q,H',n'⟩,E',gm.step ⟨f0,λf hf=>h1 f hf⟩,h2,h3⟩
theorem eS{b:AC}(hw:WD C l 0 E h n [] [] [] (λE h n=>WC C b E h n Q)):WC C (.seq (.regd l) b) E h n Q:=ν (wj hw)
theorem dQ(hg:AG m P B)(hq:q E h n):WD C [] i E h n m P B q:=λT H rs bs hT hH hr hb=>by subst hH;exact⟨T,H,n,E,⟨0,λf _=>by simp only[fw,ac1 hr hb hg,cond_true]⟩,hT,hq⟩
theorem iE(hc:cls op=.pure)(hs:SO C op E (ki h ah m) n (λv _ _=>WD C l (i+1) (jq d v E) h n m P B q)):WD C (⟨d,op,none,ah⟩::l) i E h n m P B q:=by intro T H rs bs hT hH hr hb;obtain⟨v,H',n',⟨f0,h1⟩,h2⟩:=hs T (ee H ah m) hT (by rw[BQ,hH]);obtain⟨T',qu,oe,E',⟨f1,h3⟩,h4,h5⟩:=h2 _ H rs bs (hT.jq d v) hH hr hb;refine⟨T',qu,oe,E',⟨max f0 f1,λf hf=>?_⟩,h4,h5⟩;simp only[fw,want,h1 f (by omega),hc];exact h3 f (by omega)
theorem Rp(hc:cls op=.make)(hs:SO C op E (ki h ah m) n (λv h' n'=>WD C l (i+1) (jq d v E) (qC h h' ah m) n' ((n,i)::m) P B q)):WD C (⟨d,op,none,ah⟩::l) i E h n m P B q:=by intro T H rs bs hT hH hr hb;obtain⟨v,H',n',⟨f0,h1⟩,h2⟩:=hs T (ee H ah m) hT (by rw[BQ,hH]);obtain⟨T',qu,oe,E',⟨f1,h3⟩,h4,h5⟩:=h2 _ (back H H' ah m) rs bs (hT.jq d v) (by rw[La,hH]) hr hb;refine⟨T',qu,oe,E',⟨max f0 f1,λf hf=>?_⟩,h4,h5⟩;simp only[fw,want,h1 f (by omega),hc];exact h3 f (by omega)
theorem Rq(hc:cls op=.kJ)(hs:SO C op E (ki h ah m) n (λv h' n'=>WD C l (i+1) (jq d v E) (qC h h' ah m) n' m P (⟨i,ah,h,qC h h' ah m⟩::B) q)):WD C (⟨d,op,none,ah⟩::l) i E h n m P B q:=by intro T H rs bs hT hH hr hb;obtain⟨v,H',n',⟨f0,h1⟩,h2⟩:=hs T (ee H ah m) hT (by rw[BQ,hH]);obtain⟨T',qu,oe,E',⟨f1,h3⟩,h4,h5⟩:=h2 _ (back H H' ah m) rs (⟨i,ah,H,back H H' ah m⟩::bs) (hT.jq d v) (by rw[La,hH]) hr ⟨⟨rfl,rfl,hH,by rw[La,hH]⟩,hb⟩;refine⟨T',qu,oe,E',⟨max f0 f1,λf hf=>?_⟩,h4,h5⟩;simp only[fw,want,h1 f (by omega),hc];exact h3 f (by omega)
theorem bc{agg:Bool}{sz:Nat}{a:aJ}{p v:V}(ha:ge E a=some p)(hv:cD (ki h ah m) agg sz p=some v)(hb:cu n v=true)(iG:dH v v=true)
 (hk:WD C l (i+1) (jq d v E) h n m (⟨i,ah,λg=>cD g agg sz p=some v⟩::P) B q):WD C (⟨d,.ld agg sz a,none,ah⟩::l) i E h n m P B q:=by
 intro T H rs bs hT hH hr D9;obtain⟨T',qu,oe,E',⟨f1,h3⟩,h4,h5⟩:=hk _ H (⟨i,.ld agg sz a,ah,T,v⟩::rs) bs (hT.jq d v) hH ⟨⟨rfl,rfl,λH' oh=>⟨v,H',.h,by have oh:cD H'.get agg sz p=some v:=oh;simp only[simple,hT.ge ha,G3 rfl,oh,eg],iG⟩⟩,hr⟩ D9;refine⟨T',qu,oe,E',⟨f1,λf hf=>?_⟩,h4,h5⟩;have e:oper (ev C f) (.ld agg sz a) T (ee H ah m) n=some (v,ee H ah m,n):=by
  have:vF (ee H ah m) agg sz p=some v:=by rw[G3 (by rw[BQ,hH])];exact hv
  simp only[oper,eN,simple,hT.ge ha,this,eg]
 simp only[fw,want,e,cls,hb,cond_true];exact h3 f hf
theorem Ed{z len:Nat}{x:aJ}{v:V}{cs:List V}{h0:Hf}{n0:K}(hx:ge E x=some v)(a:ρ h0 n0 z v len cs)
 (hk:WD C l (i+1) (jq d (.i .i64 (len:Nat)) E) h n m (⟨i,ah,λ_=>True⟩::P) B q):WD C (⟨d,.len 1 x,none,ah⟩::l) i E h n m P B q:=by
 intro T H rs bs hT hH hr D9;have e0:∀(H:Hp) (n:K),simple (.len 1 x) T H n=some (.i .i64 (len:Nat),H,n):=by
  intro H n;have e:=hT.ge hx;obtain⟨h1,h2⟩:=a;cases h2 with
  | inl h=>rw[h.1]at e;simp only[simple,e,h.2];rfl
  | inr h=>
   obtain⟨⟨b,o,c,h3,h4⟩,_⟩:=h;cases h3 with
   | inl e'=>rw[e'.1]at e;simp only[simple,e];rfl
   | inr e'=>rw[e']at e;simp only[simple,e];rfl
 have iG:dH (.i .i64 (len:Nat)) (.i .i64 (len:Nat))=true:=by simp only[dH,iC];simp
 obtain⟨T',qu,oe,E',⟨f1,h3⟩,h4,h5⟩:=hk _ H (⟨i,.len 1 x,ah,T,.i .i64 (len:Nat)⟩::rs) bs (hT.jq d _) hH ⟨⟨rfl,rfl,λH' oh=>⟨_,H',.h,e0 H' .h,iG⟩⟩,hr⟩ D9;refine⟨T',qu,oe,E',⟨f1,λf hf=>?_⟩,h4,h5⟩;have e:oper (ev C f) (.len 1 x) T (ee H ah m) n=some (.i .i64 (len:Nat),ee H ah m,n):=by simp only[oper,eN,e0]
 simp only[fw,want,e,cls,cu,cond_true];exact h3 f hf
theorem ac2{x:aJ}{bs:List UInt8}(hx:ge E x=some (st bs))
 (hk:WD C l (i+1) (jq d (.i .i64 (bs.length:Nat)) E) h n m (⟨i,ah,λ_=>True⟩::P) B q):WD C (⟨d,.len 0 x,none,ah⟩::l) i E h n m P B q:=by
 intro T H rs ny hT hH hr D9;have e0:∀(H:Hp) (n:K),simple (.len 0 x) T H n=some (.i .i64 (bs.length:Nat),H,n):=by intro H n;simp only[simple,hT.ge hx];rfl
 have iG:dH (.i .i64 (bs.length:Nat)) (.i .i64 (bs.length:Nat))=true:=by simp only[dH,iC];simp
 obtain⟨T',qu,oe,E',⟨f1,h3⟩,h4,h5⟩:=hk _ H (⟨i,.len 0 x,ah,T,.i .i64 (bs.length:Nat)⟩::rs) ny (hT.jq d _) hH ⟨⟨rfl,rfl,λH' oh=>⟨_,H',.h,e0 H' .h,iG⟩⟩,hr⟩ D9;refine⟨T',qu,oe,E',⟨f1,λf hf=>?_⟩,h4,h5⟩;have e:oper (ev C f) (.len 0 x) T (ee H ah m) n=some (.i .i64 (bs.length:Nat),ee H ah m,n):=by simp only[oper,eN,e0]
 simp only[fw,want,e,cls,cu,cond_true];exact h3 f hf
theorem bF{g:K}{w x:Bool}(hg:lk E g=some (.b x))(hx:x=w)(hs:WD C (⟨d,op,none,ah⟩::l) i E h n m P B q):WD C (⟨d,op,some (g,w),ah⟩::l) i E h n m P B q:=by intro T H rs bs hT hH hr hb;obtain⟨T',H',n',E',⟨f0,h1⟩,h2,h3⟩:=hs T H rs bs hT hH hr hb;refine⟨T',H',n',E',⟨f0,λf hf=>?_⟩,h2,h3⟩;have:=h1 f hf;simp only[fw,want,hT _ _ hg]at this ⊢;subst hx;cases x<;>exact this
theorem fc{g:K}{w x:Bool}(hg:lk E g=some (.b x))(hx:x=!w)(hs:WD C l (i+1) (jq d (.u []) E) h n m P B q):WD C (⟨d,op,some (g,w),ah⟩::l) i E h n m P B q:=by intro T H rs bs hT hH hr hb;obtain⟨T',H',n',E',⟨f0,h1⟩,h2,h3⟩:=hs _ H rs bs (hT.jq d _) hH hr hb;refine⟨T',H',n',E',⟨f0,λf hf=>?_⟩,h2,h3⟩;have:=h1 f hf;subst hx;simp only[fw,want,hT _ _ hg];cases w<;>exact this
theorem uL{g:K}{w:Bool}(hg:lk E g=some (.u []))(hs:WD C l (i+1) (jq d (.u []) E) h n m P B q):WD C (⟨d,op,some (g,w),ah⟩::l) i E h n m P B q:=by intro T H rs bs hT hH hr hb;obtain⟨T',H',n',E',⟨f0,h1⟩,h2,h3⟩:=hs _ H rs bs (hT.jq d _) hH hr hb;refine⟨T',H',n',E',⟨f0,λf hf=>?_⟩,h2,h3⟩;have:=h1 f hf;simp only[fw,want,hT _ _ hg];exact this
theorem gS(k:IntKind)(x:Int):dH (.i k x) (.i k x)=true:=by simp only[dH,iC,jW];simp
theorem nQ(l m:Nat):dH (.s l m) (.s l m)=true:=by simp[dH,dD]
theorem ρ.dX{z:Nat}{v:V}{len:Nat}{cs:List V}(a:ρ h n z v len cs):dH v v=true:=by
 obtain⟨h1,h2⟩:=a;cases h2 with
 | inl h=>rw[h.1];rfl
 | inr h=>obtain⟨⟨b,o,c,h3,h4⟩,_⟩:=h;cases h3 with | inl e=>rw[e.1];simp[dH,dD,K.beq_refl] | inr e=>rw[e];simp[dH,dD,K.beq_refl]
theorem Rr{b n:K}(h:b.num<n.num):K.cmp false b n=true:=rL.2 h
theorem ρ.below{z:Nat}{v:V}{len:Nat}{cs:List V}(a:ρ h n z v len cs){n':K}(hn:n.num<=n'.num):cu n' v=true:=by
 obtain⟨h1,h2⟩:=a;cases h2 with
 | inl h=>rw[h.1];rfl
 | inr h=>
  obtain⟨⟨b,o,c,h3,h4⟩,_⟩:=h;have:=Rr (fN h4 hn);cases h3 with | inl e=>rw[e.1];exact this | inr e=>rw[e];exact this
theorem tj{a:V}{l:List V}(h1:dH a a=true)(h2:lE l l=true):lE (a::l) (a::l)=true:=by simp[lE,h1,h2]
end
end
section
abbrev S:=List UInt8
structure Nd where
 op:Int
 sort:S
 name:S
 vars:List (S×S)
 kids:List Int
def dT(x:Nd)(vv kv:V):List V:=[.i .i64 x.op,st x.sort,st x.name,vv,kv]
def px:List (S×S)->List V
 | []=>[]
 | (a,b)::l=>st a::st b::px l
def eI(k:IntKind):List Int->List V
 | []=>[]
 | a::l=>.i k a::eI k l
theorem Ee(k:IntKind)(l:List Int):(eI k l).length=l.length:=by induction l<;>simp_all [eI]
theorem Rs(l:List (S×S)):(px l).length=l.length*2:=by
 induction l with
 | nil=>rfl
 | cons a l ih=>simp[px,ih];omega
theorem Lc(k:IntKind):∀{l:List Int} {i:Nat} (h:i<l.length),nth (eI k l) i=some (.i k l[i]):=by
 intro l
 induction l with
 | nil=>intro i h;simp at h
 | cons a l ih=>intro i h;cases i with
  | zero=>rfl
  | succ i=>exact ih (by simpa using h)
theorem ac3:∀{l:List (S×S)} {i:Nat} (h:i<l.length),nth (px l) (i*2)=some (st l[i].1):=by
 intro l
 induction l with
 | nil=>intro i h;simp at h
 | cons a l ih=>intro i h;cases i with
  | zero=>rfl
  | succ i=>
   have:(i+1)*2=i*2+1+1:=by omega
   rw[this];exact ih (by simpa using h)
theorem ac4:∀{l:List (S×S)} {i:Nat} (h:i<l.length),nth (px l) (i*2+1)=some (st l[i].2):=by
 intro l
 induction l with
 | nil=>intro i h;simp at h
 | cons a l ih=>intro i h;cases i with
  | zero=>rfl
  | succ i=>
   have:(i+1)*2+1=(i*2+1)+1+1:=by omega
   rw[this];exact ih (by simpa using h)
theorem ac5:∀{l:List (S×S)} {i:Nat} (h:i<l.length),((px l).drop (i*2)).take 2=[st l[i].1,st l[i].2]:=by
 intro l
 induction l with
 | nil=>intro i h;simp at h
 | cons a l ih=>intro i h;cases i with
  | zero=>rfl
  | succ i=>
   have:(i+1)*2=i*2+1+1:=by omega
   rw[this];exact ih (by simpa using h)
theorem Ru(l:List (S×S))(i j:Nat):((px l).drop (i*2)).take (j*2)=px ((l.drop i).take j):=by
 induction i generalizing l with
 | zero=>
  simp only[Nat.zero_mul,jS]
  induction j generalizing l with
  | zero=>simp[px]
  | succ j ih=>
   cases l with
   | nil=>simp[px]
   | cons a l=>
    have:(j+1)*2=j*2+1+1:=by omega
    rw[this];simp only[px,sG,ih]
 | succ i ih=>
  cases l with
  | nil=>simp[px]
  | cons a l=>
   have:(i+1)*2=i*2+1+1:=by omega
   rw[this];simp only[px,Dn,ih]
theorem ac6(k:IntKind)(l:List Int)(i j:Nat):((eI k l).drop i).take j=eI k ((l.drop i).take j):=by
 have h:∀l:List Int,eI k l=l.map (.i k ·):=by intro l;induction l<;>simp_all [eI]
 rw[h,h,←List.map_drop,←List.map_take]
theorem Hl(k:IntKind)(a b:List Int):eI k (a++b)=eI k a++eI k b:=by induction a<;>simp_all [eI]
theorem Rv{α:Type}:∀(a b:List α),a.length=b.length->over a b=some a:=by
 intro a
 induction a with
 | nil=>intro b h;cases b with | nil=>rfl | cons x b=>simp at h
 | cons x a ih=>intro b h;cases b with
  | nil=>simp at h
  | cons y b=>simp only[over,ih b (by simpa using h)]
def gh(h:Hf)(n:K)(k:IntKind)(v:V)(l:List Int):Prop:=ρ h n 1 v l.length (eI k l)
def fC(h:Hf)(n:K)(v:V)(l:List (S×S)):Prop:=ρ h n 2 v l.length (px l)
structure rM(h:Hf)(n:K)(b:K)(o:Nat)(x:Nd)(vv kv:V):Prop where
 lt:b.num<n.num
 all:cD h true 5 (.p b o)=some (.a (dT x vv kv))
 vars:fC h n vv x.vars
 kids:gh h n .i64 kv x.kids
def dc:List Nd->List (V×V)->List V
 | x::l,p::m=>dT x p.1 p.2++dc l m
 | _,_=>[]
theorem wm:∀{l:List Nd} {m:List (V×V)},m.length=l.length->(dc l m).length=l.length*5:=by
 intro l
 induction l with
 | nil=>intro m h;cases m<;>simp[dc]
 | cons x l ih=>intro m h;cases m with
  | nil=>simp at h
  | cons p m=>simp only[dc,gX,ih (by simpa using h),fG];simp[dT];omega
theorem wo:∀{l:List Nd} {m:List (V×V)} (hm:m.length=l.length) {i:Nat} (h:i<l.length),((dc l m).drop (i*5)).take 5=dT l[i] (m[i]'(by omega)).1 (m[i]'(by omega)).2:=by
 intro l
 induction l with
 | nil=>intro m hm i h;simp at h
 | cons x l ih=>intro m hm i h;cases m with
  | nil=>simp at hm
  | cons p m=>
   cases i with
   | zero=>simp[dc,dT]
   | succ i=>
    have:(i+1)*5=5+i*5:=by omega
    rw[this,←List.drop_drop];have h5:(dc (x::l) (p::m)).drop 5=dc l m:=by simp[dc,dT]
    rw[h5];exact ih (by simpa using hm) (by simpa using h)
theorem xX:∀{l:List Nd} {m:List (V×V)} (hm:m.length=l.length) (l':List Nd) (m':List (V×V)),dc (l++l') (m++m')=dc l m++dc l' m':=by
 intro l
 induction l with
 | nil=>intro m hm l' m';cases m with | nil=>rfl | cons p m=>simp at hm
 | cons x l ih=>intro m hm l' m';cases m with
  | nil=>simp at hm
  | cons p m=>simp only[vM,dc,ih (by simpa using hm) l' m',uF]
def db(h:Hf)(n:K)(v:V)(ts:List Nd):Prop:=
 ∃m:List (V×V),∃hm:m.length=ts.length,ρ h n 5 v ts.length (dc ts m)/\∀i (hi:i<ts.length),fC h n (m[i]'(by omega)).1 ts[i].vars/\gh h n .i64 (m[i]'(by omega)).2 ts[i].kids
section
variable {h h':Hf}{n n':K}
theorem gh.ext{k:IntKind}{v:V}{l:List Int}(a:gh h n k v l)(e:Ext h n h' n'):gh h' n' k v l:=ρ.ext a e
theorem fC.ext{v:V}{l:List (S×S)}(a:fC h n v l)(e:Ext h n h' n'):fC h' n' v l:=ρ.ext a e
theorem db.ext{v:V}{ts:List Nd}(a:db h n v ts)(e:Ext h n h' n'):db h' n' v ts:=by obtain⟨m,hm,h1,h2⟩:=a;exact⟨m,hm,h1.ext e,λi hi=>⟨(h2 i hi).1.ext e,(h2 i hi).2.ext e⟩⟩
theorem db.sl{v:V}{ts:List Nd}(a:db h n v ts):∃cs,ρ h n 5 v ts.length cs:=by obtain⟨m,hm,h1,_⟩:=a;exact⟨_,h1⟩
theorem db.node{v:V}{ts:List Nd}(a:db h n v ts){i:Nat}(hi:i<ts.length):∃vv kv,rM h n v.blk (v.off+i*5) ts[i] vv kv:=by obtain⟨m,hm,h1,h2⟩:=a;refine⟨_,_,h1.xT (by omega),?_,(h2 i hi).1,(h2 i hi).2⟩;rw[h1.nO (by omega) (by omega),wo hm hi]
theorem tk{b:K}{o sz OD:Nat}{l:List V}(ha:cD h true sz (.p b o)=some (.a l)){j:Nat}{w:V}(hw:nth l j=some w):cD h false OD (.p b (o+j))=some w:=by
 simp only[cD]at ha ⊢;split at ha
 ·rename_i row hr;simp only[hr,cond_false];simp only[cond_true]at ha;split at ha
  ·rename_i l' hl;cases ha;have hj:j<l.length:=by rw[pL]at hw;exact(nL.1 hw).1
   obtain⟨e,hle⟩:=oI hl;have:l.length=sz:=by rw[e];simp;omega
   rw[Qx hl (by omega)];exact hw
  ·cases ha
 ·cases ha
theorem rM.op{b:K}{o:Nat}{x:Nd}{vv kv:V}(a:rM h n b o x vv kv)(sz:Nat):cD h false sz (.p b (o+0))=some (.i .i64 x.op):=tk a.all U
theorem rM.sort{b:K}{o:Nat}{x:Nd}{vv kv:V}(a:rM h n b o x vv kv)(sz:Nat):cD h false sz (.p b (o+1))=some (st x.sort):=tk a.all U
theorem rM.name{b:K}{o:Nat}{x:Nd}{vv kv:V}(a:rM h n b o x vv kv)(sz:Nat):cD h false sz (.p b (o+2))=some (st x.name):=tk a.all U
theorem rM.vs{b:K}{o:Nat}{x:Nd}{vv kv:V}(a:rM h n b o x vv kv)(sz:Nat):cD h false sz (.p b (o+3))=some vv:=tk a.all U
theorem rM.ks{b:K}{o:Nat}{x:Nd}{vv kv:V}(a:rM h n b o x vv kv)(sz:Nat):cD h false sz (.p b (o+4))=some kv:=tk a.all U
theorem gh.get{k:IntKind}{v:V}{l:List Int}(a:gh h n k v l){i:Nat}(hi:i<l.length)(sz:Nat):cD h false sz (.p v.blk (v.off+i*1))=some (.i k l[i]):=
 ρ.get a (by rw[ka];exact Lc k hi) sz
theorem fC.nO{v:V}{l:List (S×S)}(a:fC h n v l){i:Nat}(hi:i<l.length):cD h true 2 (.p v.blk (v.off+i*2))=some (.a [st l[i].1,st l[i].2]):=by rw[ρ.nO a (by omega) (by omega),ac5 hi]
theorem fC.name{v:V}{l:List (S×S)}(a:fC h n v l){i:Nat}(hi:i<l.length)(sz:Nat):cD h false sz (.p v.blk (v.off+i*2+0))=some (st l[i].1):=tk (a.nO hi) U
theorem fC.sort{v:V}{l:List (S×S)}(a:fC h n v l){i:Nat}(hi:i<l.length)(sz:Nat):cD h false sz (.p v.blk (v.off+i*2+1))=some (st l[i].2):=tk (a.nO hi) U
end
end
abbrev k0:K:=.h
abbrev k1:K:=.o .h
abbrev k2:K:=.i .h
abbrev k3:K:=.o (.o .h)
abbrev k4:K:=.i k1
abbrev k5:K:=.o k2
abbrev k6:K:=.i k2
abbrev k7:K:=.o k3
abbrev k8:K:=.i k3
abbrev k9:K:=.o k4
abbrev aF:K:=.i k4
abbrev aH:K:=.o k5
abbrev aN:K:=.i k5
abbrev aO:K:=.o k6
abbrev aT:K:=.i k6
abbrev aV:K:=.o k7
abbrev aY:K:=.i k7
abbrev aU:K:=.o k8
abbrev aZ:K:=.i k8
abbrev bf:K:=.o k9
abbrev bk:K:=.i k9
abbrev bp:K:=.o aF
abbrev bL:K:=.i aF
abbrev bz:K:=.o aH
abbrev bD:K:=.i aH
abbrev bH:K:=.o aN
abbrev bU:K:=.i aN
abbrev bX:K:=.o aO
abbrev bY:K:=.i aO
abbrev cj:K:=.o aT
abbrev cn:K:=.i aT
abbrev bV:K:=.o aV
abbrev cE:K:=.i aV
abbrev cB:K:=.o aY
abbrev cG:K:=.i aY
abbrev cN:K:=.o aU
abbrev cO:K:=.i aU
abbrev cP:K:=.o aZ
abbrev cI:K:=.i aZ
abbrev du:K:=.o bf
abbrev dd:K:=.i bf
abbrev cV:K:=.o bk
abbrev dy:K:=.i bk
abbrev de:K:=.o bp
abbrev ez:K:=.i bp
abbrev eZ:K:=.o bL
abbrev fe:K:=.i bL
abbrev fa:K:=.o bz
abbrev fI:K:=.i bz
abbrev fW:K:=.o bD
abbrev fJ:K:=.i bD
abbrev fR:K:=.o bH
abbrev fD:K:=.i bH
abbrev fS:K:=.o bU
abbrev fK:K:=.i bU
abbrev iM:K:=.o bX
abbrev jc:K:=.i bX
abbrev je:K:=.o bY
abbrev jw:K:=.i bY
abbrev jx:K:=.o cj
abbrev jy:K:=.i cj
abbrev im:K:=.o cn
abbrev jz:K:=.i cn
abbrev jA:K:=.o bV
abbrev jB:K:=.i bV
abbrev jC:K:=.o cE
abbrev jP:K:=.i cE
abbrev kj:K:=.o cB
abbrev fE:K:=.i cB
abbrev kK:K:=.o cG
abbrev lV:K:=.i cG
abbrev lW:K:=.o cN
abbrev lf:K:=.i cN
abbrev oq:K:=.o cO
abbrev ot:K:=.i cO
abbrev ou:K:=.o cP
abbrev ov:K:=.i cP
abbrev ox:K:=.o cI
abbrev lX:K:=.i cI
abbrev nz:K:=.o du
abbrev oU:K:=.i du
abbrev qD:K:=.o dd
abbrev sk:K:=.i dd
abbrev sn:K:=.o cV
abbrev lh:K:=.i cV
abbrev oV:K:=.o dy
abbrev so:K:=.i dy
abbrev sr:K:=.o de
abbrev sx:K:=.i de
abbrev sy:K:=.o ez
abbrev ri:K:=.i ez
abbrev uj:K:=.o eZ
abbrev oy:K:=.i eZ
abbrev vJ:K:=.o fe
abbrev wq:K:=.i fe
abbrev wu:K:=.o fa
abbrev wv:K:=.i fa
abbrev wx:K:=.o fI
abbrev wy:K:=.i fI
abbrev wz:K:=.o fW
abbrev tn:K:=.i fW
abbrev uM:K:=.o fJ
abbrev pP:K:=.i fJ
abbrev uN:K:=.o fR
abbrev uO:K:=.i fR
abbrev uP:K:=.o fD
abbrev uQ:K:=.i fD
abbrev uR:K:=.o fS
abbrev uS:K:=.i fS
abbrev uT:K:=.o fK
abbrev uU:K:=.i fK
abbrev xY:K:=.o iM
abbrev lH:K:=.i iM
abbrev xZ:K:=.o jc
abbrev ya:K:=.i jc
abbrev yb:K:=.o je
abbrev yc:K:=.i je
abbrev yd:K:=.o jw
abbrev ye:K:=.i jw
abbrev yf:K:=.o jx
abbrev yg:K:=.i jx
abbrev qF:K:=.o jy
abbrev tq:K:=.i jy
abbrev yh:K:=.o im
abbrev yi:K:=.i im
abbrev yj:K:=.o jz
abbrev yl:K:=.i jz
abbrev ym:K:=.o jA
abbrev tv:K:=.i jA
abbrev yn:K:=.o jB
abbrev yo:K:=.i jB
abbrev yp:K:=.o jC
abbrev pQ:K:=.i jC
abbrev yq:K:=.o jP
abbrev yr:K:=.i jP
abbrev yt:K:=.o kj
abbrev yu:K:=.i kj
abbrev yw:K:=.o fE
abbrev yx:K:=.i fE
abbrev yz:K:=.o kK
abbrev yA:K:=.i kK
abbrev BR:K:=.o lV
abbrev BS:K:=.i lV
abbrev Hm:K:=.o lW
abbrev Ho:K:=.i lW
abbrev Hq:K:=.o lf
abbrev Hr:K:=.i lf
abbrev Ht:K:=.o oq
abbrev Hu:K:=.i oq
abbrev Hv:K:=.o ot
abbrev Hw:K:=.i ot
abbrev Hy:K:=.o ou
abbrev Hz:K:=.i ou
abbrev HA:K:=.o ov
abbrev HB:K:=.i ov
abbrev HC:K:=.o ox
abbrev HD:K:=.i ox
abbrev HE:K:=.o lX
abbrev HF:K:=.i lX
abbrev HG:K:=.o nz
abbrev Ef:K:=.i nz
abbrev HH:K:=.o oU
abbrev HI:K:=.i oU
abbrev BT:K:=.o qD
abbrev HJ:K:=.i qD
abbrev HK:K:=.o sk
abbrev HL:K:=.i sk
abbrev HM:K:=.o sn
abbrev HN:K:=.i sn
abbrev HO:K:=.o lh
abbrev HP:K:=.i lh
abbrev HQ:K:=.o oV
abbrev HR:K:=.i oV
abbrev Rw:K:=.o so
abbrev Rx:K:=.i so
abbrev Ld:K:=.o sr
abbrev HS:K:=.i sr
abbrev Ry:K:=.o sx
abbrev Rz:K:=.i sx
abbrev RA:K:=.o sy
abbrev RB:K:=.i sy
abbrev RC:K:=.o ri
abbrev RD:K:=.i ri
abbrev RE:K:=.o uj
abbrev RF:K:=.i uj
abbrev RH:K:=.o oy
abbrev RI:K:=.i oy
section
def df(b:K)(h h':Hf):Prop:=∀k:K,k.num≠b.num->h' k=h k
theorem Ext.aA{h h1 h2:Hf}{n n1 b:K}(a:Ext h n h1 n1)(e:df b h1 h2)(hb:n.num<=b.num):Ext h n h2 n1:=
 ⟨a.1,λk hk=>by rw[e k (by omega),a.2 k hk]⟩
theorem lI(h:Hf)(b:K)(o:Option O):df b h (hp h b o):=λk hk=>mh _ _ (pN hk)
theorem df.row{h h':Hf}{b k:K}(e:df b h h')(hk:k.num≠b.num):ja h' k=ja h k:=by unfold ja;rw[e k hk]
theorem ρ.aA{h h':Hf}{n b:K}{z:Nat}{v:V}{len:Nat}{cs:List V}(a:ρ h n z v len cs)(e:df b h h')(hb:v=.ns\/v.blk.num≠b.num):ρ h' n z v len cs:=by
 obtain⟨h1,h2⟩:=a;refine⟨h1,h2.imp id λ⟨⟨c,o,d,h3,h4⟩,row,h5,h6⟩=>⟨⟨c,o,d,h3,h4⟩,row,?_,h6⟩⟩;cases hb with
 | inl hb=>cases h3 with
  | inl h3=>rw[hb]at h3;cases h3.1
  | inr h3=>rw[hb]at h3;cases h3
 | inr hb=>rw[e.row hb];exact h5
theorem ρ.eG{h:Hf}{n:K}{z:Nat}{v:V}{len:Nat}{cs:List V}(a:ρ h n z v len cs):v=.ns\/v.blk.num<n.num:=by
 obtain⟨h1,h2⟩:=a;cases h2 with
 | inl h=>exact Or.inl h.1
 | inr h=>obtain⟨⟨b,o,c,h3,h4⟩,_⟩:=h;right;cases h3 with | inl e=>rw[e.1];exact h4 | inr e=>rw[e];exact h4
theorem dV{h:Hf}{b:K}{l:List V}{e fz:Nat}(a:h b=some (.c l e fz)){o:Nat}{v:V}(hv:nth l o=some v)(sz:Nat):cD h false sz (.p b o)=some v:=by simp only[cD,ja,a,O.row,cond_false];exact hv
theorem cz{h:Hf}{b:K}{l l':List V}{e fz:Nat}(a:h b=some (.c l e fz)){o sz:Nat}(hv:dt l o sz=some l'):cD h true sz (.p b o)=some (.a l'):=by simp only[cD,ja,a,O.row,cond_true,hv]
theorem HT{l:List V}{o:Nat}{v:V}{l':List V}(h1:v.cells=[v])(h2:v.one=true)(hp:eW [v] l o=some l'):mG l 0 o 1 v=some l':=by unfold mG;rw[h1];simp only[bN,h2];exact hp
theorem kP{E:Env}{h:Hf}{k:K}{agg:Bool}{sz:Nat}{p v:V}(h1:lk E k=some p)(h2:cD h agg sz p=some v):oK [.cell k agg sz] E h=some v:=by simp only[oK,sW,wa,h1,h2]
theorem Eg{E:Env}{h:Hf}{k k':K}{agg RJ:Bool}{sz OD:Nat}{p v p' v':V}(h1:lk E k=some p)(h2:cD h agg sz p=some v)(h3:lk E k'=some p')(h4:cD h RJ OD p'=some v'):
 oK [.cell k agg sz,.cell k' RJ OD] E h=some (.u [v,v']):=by
 simp only[oK,sW,wa,h1,h2,h3,h4]
section
variable {C:Nat->Option bP}{E:Env}{h:Hf}{n:K}{q:Env->Hf->K->Prop}{m:Made}{P:List PR}{B:List PB}{i:Nat}{l:List AO}{ah:Nat}{k:V->Hf->K->Prop}
theorem RK{e:Nat}{zs:List V}(hk:∀h' n',n'.num=n.num+1->h' n=some (.c zs e 0)->Ext h n h' n'->k (.p n 0) h' n'):SO C (.new e zs) E h n k:=
 aaV (hk _ _ (K.fH n) (gw _ _ _) ((Ext.refl h n).new _))
theorem ac7{e:Nat}{x:aJ}{v:V}{cs:List V}(hx:ge E x=some v)(hc:v.cells=cs)(ho:bN cs=true)(hk:∀h' n',n'.num=n.num+1->h' n=some (.c cs e 0)->Ext h n h' n'->k (.p n 0) h' n'):SO C (.box e x) E h n k:=
 aaW hx hc ho (hk _ _ (K.fH n) (gw _ _ _) ((Ext.refl h n).new _))
theorem RL{e len:Nat}{zs l:List V}{ps:List (Nat×Nat×aJ)}(hl:iQ E zs ps=some l)(hk:∀h' n',n'.num=n.num+1->h' n=some (.c l e 0)->Ext h n h' n'->k (.sl n 0 len len) h' n'):SO C (.bsl e zs len ps) E h n k:=
 aaX hl (hk _ _ (K.fH n) (gw _ _ _) ((Ext.refl h n).new _))
theorem ac8{e esz bytes m:Nat}{z:List V}{x y:aJ}{i j:IntKind}(hx:ge E x=some (.i i (m:Nat)))(hy:ge E y=some (.i j (m:Nat)))(hb:m*bytes<=140737488355328)(fM:m<=9223372036854775807)
 (hk:∀h' n',n'.num=n.num+1->h' n=some (.c (gu z m) e 0)->Ext h n h' n'->k (.sl n 0 m m) h' n'):SO C (.msl e esz bytes z x y) E h n k:=
 aaY hx hy hb fM (hk _ _ (K.fH n) (gw _ _ _) ((Ext.refl h n).new _))
theorem RM{sz:Nat}{a x:aJ}{b:K}{o e fz:Nat}{l l':List V}{v:V}(ha:ge E a=some (.p b o))(hx:ge E x=some v)(hb:h b=some (.c l e fz))(hl:mG l fz o sz v=some l')
 (hk:∀h',h' b=some (.c l' e fz)->df b h h'->k (.u []) h' n):SO C (.st sz a x) E h n k:=
 aa0 ha hx hb hl (hk _ (gw _ _ _) (lI _ _ _))
theorem ac9{e z bytes m:Nat}{zl new:List V}{s x:aJ}{v:V}(hs:ge E s=some .ns)(hx:ge E x=some v)(a:ρ h n z v m new)(h1:m*bytes<=1000000000)(h2:bytes<=100000)(h3:m<=1000000000)
 (hk:∀v' h' n',gp h' e z v' m new->Ext h n h' n'->(v'=.ns\/n.num<=v'.blk.num/\v'.blk.num<n'.num)->k v' h' n'):SO C (.app e z bytes zl false s x) E h n k:=
 QA hs hx a h1 h2 h3
  (λh0=>hk .ns h n (by
   have:=a.1;rw[h0]at this ⊢;have:new=[]:=by simpa using this
   rw[this];exact gp.ns h e z) (Ext.refl h n) (Or.inl U))
  (λh0=>hk _ _ _ ⟨a.1,Or.inr ⟨h0,n,rfl,gw _ _ _⟩⟩ ((Ext.refl h n).new _) (Or.inr ⟨Γ _,by rw[K.fH];exact Nat.lt_succ_self _⟩))
theorem ada{e z bytes m len:Nat}{zl new cs:List V}{s x:aJ}{o v:V}(hs:ge E s=some o)(ho:gp h e z o len cs)(hx:ge E x=some v)(a:ρ h n z v m new)(h1:(len+m)*bytes<=1000000000)(h2:bytes<=100000)(h3:len+m<=1000000000)
 (hm:0<m)(eF:bN new=true)(hn:o=.ns\/o.blk.num<n.num)
 (hk:∀v' h' n',gp h' e z v' (len+m) (cs++new)->v'.blk=n->n'.num=n.num+1->(∀b:K,b.num<n.num->(o=.ns\/b.num≠o.blk.num)->h' b=h b)->k v' h' n'):SO C (.app e z bytes zl false s x) E h n k:=
 aa5 hs ho hx a h1 h2 h3 hm eF (λh' g1 g2=>hk _ h' _ ⟨by rw[gX,ho.1,a.1,iO],Or.inr ⟨by omega,n,rfl,g2⟩⟩ rfl (K.fH n) (λb hb bC=>g1 b hb (bC.imp id λe=>pN e))) hn
theorem cK{d:K}{x y:aJ}{qk:eH}{ik:IntKind}{a b:Int}(hx:ge E x=some (.i ik a))(hy:ge E y=some (.i ik b))(hr:oL ik (a+b))(hk:WO C l ((d,.i ik (a+b))::E) h n q):WO C (⟨some d,.bin .add qk x y,none,ah⟩::l) E h n q:=cX (Qa hx hy hr hk)
theorem yB{d:K}{x y:aJ}{qk:eH}{ik:IntKind}{a b:Int}(hx:ge E x=some (.i ik a))(hy:ge E y=some (.i ik b))(hr:oL ik (a+b))(hk:WD C l (i+1) ((d,.i ik (a+b))::E) h n m P B q):WD C (⟨some d,.bin .add qk x y,none,ah⟩::l) i E h n m P B q:=iE U (Qa hx hy hr hk)
theorem jg{d:K}{x y:aJ}{qk:eH}{ik:IntKind}{a b:Int}(hx:ge E x=some (.i ik a))(hy:ge E y=some (.i ik b))(hr:oL ik (a - b))(hk:WO C l ((d,.i ik (a - b))::E) h n q):WO C (⟨some d,.bin .sub qk x y,none,ah⟩::l) E h n q:=cX (Qb hx hy hr hk)
theorem BU{d:K}{x y:aJ}{qk:eH}{ik:IntKind}{a b:Int}(hx:ge E x=some (.i ik a))(hy:ge E y=some (.i ik b))(hr:oL ik (a - b))(hk:WD C l (i+1) ((d,.i ik (a - b))::E) h n m P B q):WD C (⟨some d,.bin .sub qk x y,none,ah⟩::l) i E h n m P B q:=iE U (Qb hx hy hr hk)
theorem adb{d:K}{x y:aJ}{qk:eH}{ik:IntKind}{a b:Int}(hx:ge E x=some (.i ik a))(hy:ge E y=some (.i ik b))(hr:oL ik (a*b))(hk:WO C l ((d,.i ik (a*b))::E) h n q):WO C (⟨some d,.bin .mul qk x y,none,ah⟩::l) E h n q:=cX (Qc hx hy hr hk)
theorem ade{d:K}{x y:aJ}{qk:eH}{ik:IntKind}{a b:Int}(hx:ge E x=some (.i ik a))(hy:ge E y=some (.i ik b))(hr:oL ik (a*b))(hk:WD C l (i+1) ((d,.i ik (a*b))::E) h n m P B q):WD C (⟨some d,.bin .mul qk x y,none,ah⟩::l) i E h n m P B q:=iE U (Qc hx hy hr hk)
theorem bQ{d:K}{x y:aJ}{qk:eH}{ik:IntKind}{a b:Int}(hx:ge E x=some (.i ik a))(hy:ge E y=some (.i ik b))(hk:WO C l ((d,.b (decide (a=b)))::E) h n q):WO C (⟨some d,.bin .eql qk x y,none,ah⟩::l) E h n q:=cX (Qf hx hy hk)
theorem Ad{d:K}{x y:aJ}{qk:eH}{ik:IntKind}{a b:Int}(hx:ge E x=some (.i ik a))(hy:ge E y=some (.i ik b))(hk:WD C l (i+1) ((d,.b (decide (a=b)))::E) h n m P B q):WD C (⟨some d,.bin .eql qk x y,none,ah⟩::l) i E h n m P B q:=iE U (Qf hx hy hk)
theorem fT{d:K}{x y:aJ}{qk:eH}{ik:IntKind}{a b:Int}(hx:ge E x=some (.i ik a))(hy:ge E y=some (.i ik b))(hk:WO C l ((d,.b (!decide (a=b)))::E) h n q):WO C (⟨some d,.bin .neq qk x y,none,ah⟩::l) E h n q:=cX (Qg hx hy hk)
theorem Eh{d:K}{x y:aJ}{qk:eH}{ik:IntKind}{a b:Int}(hx:ge E x=some (.i ik a))(hy:ge E y=some (.i ik b))(hk:WD C l (i+1) ((d,.b (!decide (a=b)))::E) h n m P B q):WD C (⟨some d,.bin .neq qk x y,none,ah⟩::l) i E h n m P B q:=iE U (Qg hx hy hk)
theorem aP{d:K}{x y:aJ}{qk:eH}{ik:IntKind}{a b:Int}(hx:ge E x=some (.i ik a))(hy:ge E y=some (.i ik b))(hk:WO C l ((d,.b (decide (a<b)))::E) h n q):WO C (⟨some d,.bin .lss qk x y,none,ah⟩::l) E h n q:=cX (Qh hx hy hk)
theorem Lf{d:K}{x y:aJ}{qk:eH}{ik:IntKind}{a b:Int}(hx:ge E x=some (.i ik a))(hy:ge E y=some (.i ik b))(hk:WD C l (i+1) ((d,.b (decide (a<b)))::E) h n m P B q):WD C (⟨some d,.bin .lss qk x y,none,ah⟩::l) i E h n m P B q:=iE U (Qh hx hy hk)
theorem oW{d:K}{x y:aJ}{qk:eH}{ik:IntKind}{a b:Int}(hx:ge E x=some (.i ik a))(hy:ge E y=some (.i ik b))(hk:WO C l ((d,.b (decide (a<=b)))::E) h n q):WO C (⟨some d,.bin .leq qk x y,none,ah⟩::l) E h n q:=cX (aaN hx hy hk)
theorem cQ{d:K}{x y:aJ}{qk:eH}{ik:IntKind}{a b:Int}(hx:ge E x=some (.i ik a))(hy:ge E y=some (.i ik b))(hk:WO C l ((d,.b (decide (b<a)))::E) h n q):WO C (⟨some d,.bin .gtr qk x y,none,ah⟩::l) E h n q:=cX (Qi hx hy hk)
theorem wA{d:K}{x y:aJ}{qk:eH}{ik:IntKind}{a b:Int}(hx:ge E x=some (.i ik a))(hy:ge E y=some (.i ik b))(hk:WD C l (i+1) ((d,.b (decide (b<a)))::E) h n m P B q):WD C (⟨some d,.bin .gtr qk x y,none,ah⟩::l) i E h n m P B q:=iE U (Qi hx hy hk)
theorem fU{d:K}{x y:aJ}{qk:eH}{ik:IntKind}{a b:Int}(hx:ge E x=some (.i ik a))(hy:ge E y=some (.i ik b))(hk:WO C l ((d,.b (decide (b<=a)))::E) h n q):WO C (⟨some d,.bin .geq qk x y,none,ah⟩::l) E h n q:=cX (Qj hx hy hk)
theorem Ei{d:K}{x y:aJ}{qk:eH}{ik:IntKind}{a b:Int}(hx:ge E x=some (.i ik a))(hy:ge E y=some (.i ik b))(hk:WD C l (i+1) ((d,.b (decide (b<=a)))::E) h n m P B q):WD C (⟨some d,.bin .geq qk x y,none,ah⟩::l) i E h n m P B q:=iE U (Qj hx hy hk)
theorem Ej{d:K}{x y:aJ}{qk:eH}{ik:IntKind}{a b:Nat}(hx:ge E x=some (.i ik a))(hy:ge E y=some (.i ik b))(hb:0<b)(hr:oL ik ((a / b:Nat):Int))(hk:WO C l ((d,.i ik ((a / b:Nat):Int))::E) h n q):WO C (⟨some d,.bin .quo qk x y,none,ah⟩::l) E h n q:=cX (Qd hx hy hb hr hk)
theorem RN{d:K}{x y:aJ}{qk:eH}{ik:IntKind}{a b:Nat}(hx:ge E x=some (.i ik a))(hy:ge E y=some (.i ik b))(hb:0<b)(hr:oL ik ((a / b:Nat):Int))(hk:WD C l (i+1) ((d,.i ik ((a / b:Nat):Int))::E) h n m P B q):WD C (⟨some d,.bin .quo qk x y,none,ah⟩::l) i E h n m P B q:=iE U (Qd hx hy hb hr hk)
theorem HU{d:K}{x y:aJ}{qk:eH}{ik:IntKind}{a b:Nat}(hx:ge E x=some (.i ik a))(hy:ge E y=some (.i ik b))(hb:0<b)(hk:WO C l ((d,.i ik ((a % b:Nat):Int))::E) h n q):WO C (⟨some d,.bin .rem qk x y,none,ah⟩::l) E h n q:=cX (Qe hx hy hb hk)
theorem adf{d:K}{x y:aJ}{qk:eH}{ik:IntKind}{a b:Nat}(hx:ge E x=some (.i ik a))(hy:ge E y=some (.i ik b))(hb:0<b)(hk:WD C l (i+1) ((d,.i ik ((a % b:Nat):Int))::E) h n m P B q):WD C (⟨some d,.bin .rem qk x y,none,ah⟩::l) i E h n m P B q:=iE U (Qe hx hy hb hk)
theorem gg{d:K}{x y:aJ}{qk:eH}{a b:S}(hx:ge E x=some (st a))(hy:ge E y=some (st b))(hk:WO C l ((d,.b (decide (a=b)))::E) h n q):WO C (⟨some d,.bin .eql qk x y,none,ah⟩::l) E h n q:=cX (Qn hx hy hk)
theorem adg{d:K}{x y:aJ}{qk:eH}{a b:S}(hx:ge E x=some (st a))(hy:ge E y=some (st b))(hk:WD C l (i+1) ((d,.b (decide (a=b)))::E) h n m P B q):WD C (⟨some d,.bin .eql qk x y,none,ah⟩::l) i E h n m P B q:=iE U (Qn hx hy hk)
theorem rN{d:K}{x y:aJ}{qk:eH}{a b:S}(hx:ge E x=some (st a))(hy:ge E y=some (st b))(hk:WO C l ((d,.b (!decide (a=b)))::E) h n q):WO C (⟨some d,.bin .neq qk x y,none,ah⟩::l) E h n q:=cX (Qo hx hy hk)
theorem RP{d:K}{x y:aJ}{qk:eH}{a b:S}(hx:ge E x=some (st a))(hy:ge E y=some (st b))(hk:WD C l (i+1) ((d,.b (!decide (a=b)))::E) h n m P B q):WD C (⟨some d,.bin .neq qk x y,none,ah⟩::l) i E h n m P B q:=iE U (Qo hx hy hk)
theorem RQ{d:K}{x y:aJ}{a b:Bool}(hx:ge E x=some (.b a))(hy:ge E y=some (.b b))(hk:WO C l ((d,.b (a==b))::E) h n q):WO C (⟨some d,.bin .eql (.one .bool) x y,none,ah⟩::l) E h n q:=cX (aaO hx hy hk)
theorem Lg{d:K}{x y:aJ}{a b:Bool}(hx:ge E x=some (.b a))(hy:ge E y=some (.b b))(hk:WO C l ((d,.b (!(a==b)))::E) h n q):WO C (⟨some d,.bin .neq (.one .bool) x y,none,ah⟩::l) E h n q:=cX (Qm hx hy hk)
theorem adh{d:K}{x y:aJ}{a b:Bool}(hx:ge E x=some (.b a))(hy:ge E y=some (.b b))(hk:WD C l (i+1) ((d,.b (!(a==b)))::E) h n m P B q):WD C (⟨some d,.bin .neq (.one .bool) x y,none,ah⟩::l) i E h n m P B q:=iE U (Qm hx hy hk)
theorem HV{d:K}{op:BinOp}{x y:aJ}{qk:eH}{a b v:V}(hx:ge E x=some a)(hy:ge E y=some b)(hv:oE op qk a b=some v)(hk:WO C l ((d,v)::E) h n q):WO C (⟨some d,.bin op qk x y,none,ah⟩::l) E h n q:=cX (mT hx hy hv hk)
theorem adi{d:K}{op:BinOp}{x y:aJ}{qk:eH}{a b v:V}(hx:ge E x=some a)(hy:ge E y=some b)(hv:oE op qk a b=some v)(hk:WD C l (i+1) ((d,v)::E) h n m P B q):WD C (⟨some d,.bin op qk x y,none,ah⟩::l) i E h n m P B q:=iE U (mT hx hy hv hk)
theorem γ{d:K}{x:aJ}{v:V}(hx:ge E x=some v)(hk:WO C l ((d,v)::E) h n q):WO C (⟨some d,.mv x,none,ah⟩::l) E h n q:=cX (P7 hx hk)
theorem aL{d:K}{x:aJ}{v:V}(hx:ge E x=some v)(hk:WD C l (i+1) ((d,v)::E) h n m P B q):WD C (⟨some d,.mv x,none,ah⟩::l) i E h n m P B q:=iE U (P7 hx hk)
theorem cg{d:K}{c x y:aJ}{b:Bool}{v:V}(hc:ge E c=some (.b b))(hb:b=true)(hx:ge E x=some v)(hk:WO C l ((d,v)::E) h n q):WO C (⟨some d,.pick c x y,none,ah⟩::l) E h n q:=cX (P8 hc hb hx hk)
theorem BV{d:K}{c x y:aJ}{b:Bool}{v:V}(hc:ge E c=some (.b b))(hb:b=true)(hx:ge E x=some v)(hk:WD C l (i+1) ((d,v)::E) h n m P B q):WD C (⟨some d,.pick c x y,none,ah⟩::l) i E h n m P B q:=iE U (P8 hc hb hx hk)
theorem bE{d:K}{c x y:aJ}{b:Bool}{v:V}(hc:ge E c=some (.b b))(hb:b=false)(hx:ge E y=some v)(hk:WO C l ((d,v)::E) h n q):WO C (⟨some d,.pick c x y,none,ah⟩::l) E h n q:=cX (P9 hc hb hx hk)
theorem rO{d:K}{c x y:aJ}{b:Bool}{v:V}(hc:ge E c=some (.b b))(hb:b=false)(hx:ge E y=some v)(hk:WD C l (i+1) ((d,v)::E) h n m P B q):WD C (⟨some d,.pick c x y,none,ah⟩::l) i E h n m P B q:=iE U (P9 hc hb hx hk)
theorem pR{d:K}{x:aJ}{j ik:IntKind}{a:Int}(hx:ge E x=some (.i ik a))(hr:oL j a)(hk:WO C l ((d,.i j a)::E) h n q):WO C (⟨some d,.cv (.toInt j) x,none,ah⟩::l) E h n q:=cX (Qk hx hr hk)
theorem uV{d:K}{x:aJ}{j ik:IntKind}{a:Int}(hx:ge E x=some (.i ik a))(hr:oL j a)(hk:WD C l (i+1) ((d,.i j a)::E) h n m P B q):WD C (⟨some d,.cv (.toInt j) x,none,ah⟩::l) i E h n m P B q:=iE U (Qk hx hr hk)
theorem dR{d:K}{x:aJ}{b:Bool}(hx:ge E x=some (.b b))(hk:WO C l ((d,.b (!b))::E) h n q):WO C (⟨some d,.un .not x,none,ah⟩::l) E h n q:=cX (Ql hx hk)
theorem rP{d:K}{x:aJ}{b:Bool}(hx:ge E x=some (.b b))(hk:WD C l (i+1) ((d,.b (!b))::E) h n m P B q):WD C (⟨some d,.un .not x,none,ah⟩::l) i E h n m P B q:=iE U (Ql hx hk)
theorem mq{d:K}{x y:aJ}{ik:IntKind}{s:S}{j:Nat}(hx:ge E x=some (st s))(hy:ge E y=some (.i ik (j:Nat)))(hj:j<s.length)(hk:WO C l ((d,.i .u8 (s[j].toNat:Nat))::E) h n q):WO C (⟨some d,.idx none x y,none,ah⟩::l) E h n q:=cX (Qp hx hy hj hk)
theorem Lh{d:K}{x y:aJ}{ik:IntKind}{s:S}{j:Nat}(hx:ge E x=some (st s))(hy:ge E y=some (.i ik (j:Nat)))(hj:j<s.length)(hk:WD C l (i+1) ((d,.i .u8 (s[j].toNat:Nat))::E) h n m P B q):WD C (⟨some d,.idx none x y,none,ah⟩::l) i E h n m P B q:=iE U (Qp hx hy hj hk)
theorem Ae{d:K}{x:aJ}{lo hi:Option aJ}{s:S}{a b:Nat}(hx:ge E x=some (st s))(fV:bd E 0 lo=some a)(oi:bd E s.length hi=some b)(h1:a<=b)(h2:b<=s.length)(hk:WO C l ((d,st ((s.drop a).take (b - a)))::E) h n q):WO C (⟨some d,.sli .str x lo hi none,none,ah⟩::l) E h n q:=cX (Qq hx fV oi h1 h2 hk)
theorem Ek{d:K}{x:aJ}{lo hi:Option aJ}{s:S}{a b:Nat}(hx:ge E x=some (st s))(fV:bd E 0 lo=some a)(oi:bd E s.length hi=some b)(h1:a<=b)(h2:b<=s.length)(hk:WD C l (i+1) ((d,st ((s.drop a).take (b - a)))::E) h n m P B q):WD C (⟨some d,.sli .str x lo hi none,none,ah⟩::l) i E h n m P B q:=iE U (Qq hx fV oi h1 h2 hk)
theorem dj{d:K}{x:aJ}{j:Nat}{vs:List V}{v:V}(hx:ge E x=some (.u vs))(hv:nth vs j=some v)(hk:WO C l ((d,v)::E) h n q):WO C (⟨some d,.ext x j,none,ah⟩::l) E h n q:=cX (Qr hx hv hk)
theorem HW{d:K}{x:aJ}{j:Nat}{vs:List V}{v:V}(hx:ge E x=some (.u vs))(hv:nth vs j=some v)(hk:WD C l (i+1) ((d,v)::E) h n m P B q):WD C (⟨some d,.ext x j,none,ah⟩::l) i E h n m P B q:=iE U (Qr hx hv hk)
theorem Af{d:K}{x:aJ}{o sz:Nat}{vs:List V}{v:V}(hx:ge E x=some (.a vs))(hv:nth vs o=some v)(hk:WO C l ((d,v)::E) h n q):WO C (⟨some d,.fld false o sz x,none,ah⟩::l) E h n q:=cX (aaQ hx hv hk)
theorem kl{d:K}{zs vs:List V}{ps:List (Nat×Nat×aJ)}(hl:iQ E zs ps=some vs)(hk:WO C l ((d,.a vs)::E) h n q):WO C (⟨some d,.bld zs ps,none,ah⟩::l) E h n q:=cX (Qs hl hk)
theorem Ah{d:K}{zs vs:List V}{ps:List (Nat×Nat×aJ)}(hl:iQ E zs ps=some vs)(hk:WD C l (i+1) ((d,.a vs)::E) h n m P B q):WD C (⟨some d,.bld zs ps,none,ah⟩::l) i E h n m P B q:=iE U (Qs hl hk)
theorem BW{d:K}{f:Nat}{x y:List aJ}{vs ws:List V}(hx:vZ E x=some vs)(hy:vZ E y=some ws)(hk:WO C l ((d,.f f vs ws)::E) h n q):WO C (⟨some d,.mfn f x y,none,ah⟩::l) E h n q:=cX (aaR hx hy hk)
theorem adj{d:K}{x:aJ}{b:K}{o:Nat}(hx:ge E x=some (.p b o))(hk:WO C l ((d,.p b o)::E) h n q):WO C (⟨some d,.nck x,none,ah⟩::l) E h n q:=cX (aaS hx hk)
theorem Li{d:K}{x y:aJ}{ik:IntKind}{a b:Int}(hx:ge E x=some (.i ik a))(hy:ge E y=some (.i ik b))(hk:WO C l ((d,.i ik (max a b))::E) h n q):WO C (⟨some d,.mm true [x,y],none,ah⟩::l) E h n q:=cX (Qt hx hy hk)
theorem adk{d:K}{x y:aJ}{ik:IntKind}{a b:Int}(hx:ge E x=some (.i ik a))(hy:ge E y=some (.i ik b))(hk:WD C l (i+1) ((d,.i ik (max a b))::E) h n m P B q):WD C (⟨some d,.mm true [x,y],none,ah⟩::l) i E h n m P B q:=iE U (Qt hx hy hk)
theorem Ω{d:K}{off:Nat}{x:aJ}{b:K}{o:Nat}(hx:ge E x=some (.p b o))(hk:WO C l ((d,.p b (o+off))::E) h n q):WO C (⟨some d,.fad off x,none,ah⟩::l) E h n q:=cX (Qv hx hk)
theorem dG{d:K}{off:Nat}{x:aJ}{b:K}{o:Nat}(hx:ge E x=some (.p b o))(hk:WD C l (i+1) ((d,.p b (o+off))::E) h n m P B q):WD C (⟨some d,.fad off x,none,ah⟩::l) i E h n m P B q:=iE U (Qv hx hk)
theorem cW{d:K}{x:aJ}{s:S}(hx:ge E x=some (st s))(hk:WO C l ((d,.i .i64 (s.length:Nat))::E) h n q):WO C (⟨some d,.len 0 x,none,ah⟩::l) E h n q:=cX (aaP hx hk)
theorem bh{d:K}{z:Nat}{x y:aJ}{v:V}{len j:Nat}{ik:IntKind}{cs:List V}{h0:Hf}{n0:K}(hx:ge E x=some v)(hy:ge E y=some (.i ik (j:Nat)))(a:ρ h0 n0 z v len cs)(hj:j<len)(hk:WO C l ((d,.p v.blk (v.off+j*z))::E) h n q):WO C (⟨some d,.iad none z x y,none,ah⟩::l) E h n q:=cX (Qy hx hy a hj hk)
theorem et{d:K}{z:Nat}{x y:aJ}{v:V}{len j:Nat}{ik:IntKind}{cs:List V}{h0:Hf}{n0:K}(hx:ge E x=some v)(hy:ge E y=some (.i ik (j:Nat)))(a:ρ h0 n0 z v len cs)(hj:j<len)(hk:WD C l (i+1) ((d,.p v.blk (v.off+j*z))::E) h n m P B q):WD C (⟨some d,.iad none z x y,none,ah⟩::l) i E h n m P B q:=iE U (Qy hx hy a hj hk)
theorem aG{d:K}{z:Nat}{x:aJ}{v:V}{len:Nat}{cs:List V}{h0:Hf}{n0:K}(hx:ge E x=some v)(a:ρ h0 n0 z v len cs)(hk:WO C l ((d,.i .i64 (len:Nat))::E) h n q):WO C (⟨some d,.len 1 x,none,ah⟩::l) E h n q:=cX (aa1 hx a hk)
theorem χ{d:K}{agg:Bool}{sz:Nat}{x:aJ}{p v:V}(hx:ge E x=some p)(hv:cD h agg sz p=some v)(hk:WO C l ((d,v)::E) h n q):WO C (⟨some d,.ld agg sz x,none,ah⟩::l) E h n q:=cX (aaZ hx hv hk)
theorem ea{d:K}{e:Nat}{zs:List V}(hk:∀h' n',n'.num=n.num+1->h' n=some (.c zs e 0)->Ext h n h' n'->WO C l ((d,.p n 0)::E) h' n' q):WO C (⟨some d,.new e zs,none,ah⟩::l) E h n q:=cX (RK hk)
theorem Ai{d:K}{e:Nat}{zs:List V}(hk:∀h' n',n'.num=n.num+1->h' n=some (.c zs e 0)->Ext (ki h ah m) n h' n'->WD C l (i+1) ((d,.p n 0)::E) (qC h h' ah m) n' ((n,i)::m) P B q):WD C (⟨some d,.new e zs,none,ah⟩::l) i E h n m P B q:=Rp U (RK hk)
theorem eL{d:K}{e:Nat}{x:aJ}{v:V}{cs:List V}(hx:ge E x=some v)(hc:v.cells=cs)(ho:bN cs=true)(hk:∀h' n',n'.num=n.num+1->h' n=some (.c cs e 0)->Ext h n h' n'->WO C l ((d,.p n 0)::E) h' n' q):WO C (⟨some d,.box e x,none,ah⟩::l) E h n q:=cX (ac7 hx hc ho hk)
theorem fx{d:K}{e len:Nat}{zs vs:List V}{ps:List (Nat×Nat×aJ)}(hl:iQ E zs ps=some vs)(hk:∀h' n',n'.num=n.num+1->h' n=some (.c vs e 0)->Ext h n h' n'->WO C l ((d,.sl n 0 len len)::E) h' n' q):WO C (⟨some d,.bsl e zs len ps,none,ah⟩::l) E h n q:=cX (RL hl hk)
theorem uW{d:K}{e len:Nat}{zs vs:List V}{ps:List (Nat×Nat×aJ)}(hl:iQ E zs ps=some vs)(hk:∀h' n',n'.num=n.num+1->h' n=some (.c vs e 0)->Ext (ki h ah m) n h' n'->WD C l (i+1) ((d,.sl n 0 len len)::E) (qC h h' ah m) n' ((n,i)::m) P B q):WD C (⟨some d,.bsl e zs len ps,none,ah⟩::l) i E h n m P B q:=Rp U (RL hl hk)
theorem uX{d:K}{e esz bytes c:Nat}{z:List V}{x y:aJ}{ik jk:IntKind}(hx:ge E x=some (.i ik (c:Nat)))(hy:ge E y=some (.i jk (c:Nat)))(hb:c*bytes<=140737488355328)(fM:c<=9223372036854775807)(hk:∀h' n',n'.num=n.num+1->h' n=some (.c (gu z c) e 0)->Ext h n h' n'->WO C l ((d,.sl n 0 c c)::E) h' n' q):WO C (⟨some d,.msl e esz bytes z x y,none,ah⟩::l) E h n q:=cX (ac8 hx hy hb fM hk)
theorem ct{sz:Nat}{a x:aJ}{b:K}{o e fz:Nat}{vs ws:List V}{v:V}(ha:ge E a=some (.p b o))(hx:ge E x=some v)(hb:h b=some (.c vs e fz))(hl:mG vs fz o sz v=some ws)(hk:∀h',h' b=some (.c ws e fz)->df b h h'->WO C l E h' n q):WO C (⟨none,.st sz a x,none,ah⟩::l) E h n q:=cX (RM ha hx hb hl hk)
theorem gH{sz:Nat}{a x:aJ}{b:K}{o e fz:Nat}{vs ws:List V}{v:V}(ha:ge E a=some (.p b o))(hx:ge E x=some v)(hb:(ki h ah m) b=some (.c vs e fz))(hl:mG vs fz o sz v=some ws)(hk:∀h',h' b=some (.c ws e fz)->df b (ki h ah m) h'->WD C l (i+1) E (qC h h' ah m) n m P (⟨i,ah,h,qC h h' ah m⟩::B) q):WD C (⟨none,.st sz a x,none,ah⟩::l) i E h n m P B q:=Rq U (RM ha hx hb hl hk)
theorem BX{d:K}{e z bytes c:Nat}{zl new:List V}{s x:aJ}{v:V}(hs:ge E s=some .ns)(hx:ge E x=some v)(a:ρ h n z v c new)(h1:c*bytes<=1000000000)(h2:bytes<=100000)(h3:c<=1000000000)(hk:∀v' h' n',gp h' e z v' c new->Ext h n h' n'->(v'=.ns\/n.num<=v'.blk.num/\v'.blk.num<n'.num)->WO C l ((d,v')::E) h' n' q):WO C (⟨some d,.app e z bytes zl false s x,none,ah⟩::l) E h n q:=cX (ac9 hs hx a h1 h2 h3 hk)
theorem jK{d:K}{e z bytes c len:Nat}{zl new cs:List V}{s x:aJ}{o v:V}(hs:ge E s=some o)(ho:gp h e z o len cs)(hx:ge E x=some v)(a:ρ h n z v c new)(h1:(len+c)*bytes<=1000000000)(h2:bytes<=100000)(h3:len+c<=1000000000)(hm:0<c)(eF:bN new=true)(hn:o=.ns\/o.blk.num<n.num)(hk:∀v' h' n',gp h' e z v' (len+c) (cs++new)->v'.blk=n->n'.num=n.num+1->(∀b:K,b.num<n.num->(o=.ns\/b.num≠o.blk.num)->h' b=h b)->WO C l ((d,v')::E) h' n' q):WO C (⟨some d,.app e z bytes zl false s x,none,ah⟩::l) E h n q:=cX (ada hs ho hx a h1 h2 h3 hm eF hn hk)
theorem HX{d:K}{z:Nat}{x:aJ}{lo hi:Option aJ}{v:V}{len a b:Nat}{cs:List V}(hx:ge E x=some v){n0:K}(s:ρ h n0 z v len cs)(fV:bd E 0 lo=some a)(oi:bd E len hi=some b)(h1:a<=b)(h2:b<=len)
 (hk:∀v',ρ h n0 z v' (b - a) ((cs.drop (a*z)).take ((b - a)*z))->v'.len=b - a/\v'.blk=v.blk/\(v=.ns->v'=.ns)->WO C l ((d,v')::E) h n q):WO C (⟨some d,.sli (.sl z) x lo hi none,none,ah⟩::l) E h n q:=cX (Qz hx s fV oi h1 h2 hk)
theorem RR{d:K}{z:Nat}{x:aJ}{lo hi:Option aJ}{v:V}{len a b:Nat}{cs:List V}(hx:ge E x=some v){n0:K}(s:ρ (ki h ah m) n0 z v len cs)(fV:bd E 0 lo=some a)(oi:bd E len hi=some b)(h1:a<=b)(h2:b<=len)
 (hk:∀v',ρ (ki h ah m) n0 z v' (b - a) ((cs.drop (a*z)).take ((b - a)*z))->v'.len=b - a/\v'.blk=v.blk/\(v=.ns->v'=.ns)->WD C l (i+1) ((d,v')::E) h n m P B q):WD C (⟨some d,.sli (.sl z) x lo hi none,none,ah⟩::l) i E h n m P B q:=iE U (Qz hx s fV oi h1 h2 hk)
theorem adl{d:K}{z:Nat}{x hi mx:aJ}{v:V}{len:Nat}{cs:List V}{i1 i2:IntKind}(hx:ge E x=some v){n0:K}(a:ρ h n0 z v len cs)(oi:ge E hi=some (.i i1 (len:Nat)))(xg:ge E mx=some (.i i2 (len:Nat)))
 (hk:∀v',ρ h n0 z v' len cs->(v'.len=len/\v'.blk=v.blk/\(v=.ns->v'=.ns))->WO C l ((d,v')::E) h n q):WO C (⟨some d,.sli (.sl z) x none (some hi) (some mx),none,ah⟩::l) E h n q:=cX (aa4 hx a oi xg hk)
theorem al{d:K}{f:aJ}{xs:List aJ}{fv:V}{vs:List V}(hf:ge E f=some fv)(hl:vZ E xs=some vs)(hc:τ C fv vs h n (λv h' n'=>WO C l ((d,v)::E) h' n' q)):WO C (⟨some d,.hU f xs,none,ah⟩::l) E h n q:=cX (Qu hf hl hc)
theorem cJ{d:K}{f:aJ}{xs:List aJ}{fv:V}{vs:List V}(hf:ge E f=some fv)(hl:vZ E xs=some vs)(hc:τ C fv vs (ki h ah m) n (λv h' n'=>WD C l (i+1) ((d,v)::E) (qC h h' ah m) n' m P (⟨i,ah,h,qC h h' ah m⟩::B) q)):WD C (⟨some d,.hU f xs,none,ah⟩::l) i E h n m P B q:=Rq U (Qu hf hl hc)
end
end
section
section
variable {C:Nat->Option bP}{E:Env}{h:Hf}{n:K}
theorem τ.y{k:K}{vs:List V}{T:Tr V}{E1:Env}{ps:List K}{as body:AC}{Q:V->Hf->K->Prop}(hk:h k=some (.lp true .normal T ps as body))(hT:Le E T)(hb:mS ps vs E=some E1)(hl:ps.length=vs.length)
 (hw:WC C as E1 h n (λex E2 h2 n2=>ex=.normal/\h2 k=h k/\WC C body E2 (hp h2 k (some (.lp false .normal T ps as body))) n2 (λex E3 h3 n3=>
  h3 k=some (.lp false .normal T ps as body)/\ex.rE=false/\Q (.b ex.jF) (hp h3 k (some (.lp ex.jF ex T ps as body))) n3))):τ C (.y k) vs h n Q:=by
 intro H hH;obtain⟨T1,h1,h2⟩:=P4 hT hb;obtain⟨r,E2,⟨f0,h3⟩,h4,h5,h6,h7⟩:=hw T1 H h2 hH;obtain⟨ex,T2,v2,H2,n2⟩:=r;simp only at h5 h6 h7;subst h5;obtain⟨r,E3,⟨f1,h8⟩,h9,lj,oX,km⟩:=h7 T2 (H2.put (some (.lp false .normal T ps as body)) k) h4 (jr _ _ _);obtain⟨ex,T3,v3,H3,n3⟩:=r;simp only at lj oX km;have e1:H.get k=some (.lp true .normal T ps as body):=by rw[hH];exact hk
 have e2:H2.get k=some (.lp true .normal T ps as body):=by rw[h6];exact hk
 have e3:Nat.beq ps.length vs.length=true:=by rw[hl,dD];simp
 refine⟨.b ex.jF,H3.put (some (.lp ex.jF ex T ps as body)) k,n3,gm.step ⟨max f0 f1,λf hf=>?_⟩,by rw[jr];exact km⟩;have g1:=h3 f (by omega);have g2:=h8 f (by omega);simp only[ca,e1,h1,e3,cond_true,g1,e2,g2,lj,oX,cond_false]
def Iter(C:Nat->Option bP)(fv:V)(F:Hf->K->Prop)(ys:List (List V)):Prop:=
 ∀(y:V) (I:Nat->Hf->K->Prop) (D:Hf->K->Prop) (h:Hf) (n:K),(∀i h n h' n',I i h n->Ext h n h' n'->I i h' n')->(∀i h n,I i h n->F h n)->(∀i (hi:i<ys.length) h n,I i h n->τ C y ys[i] h n (λv h' n'=>(v=.b true/\I (i+1) h' n')\/(v=.b false/\D h' n')))->I 0 h n->τ C fv [y] h n (λv h' n'=>I ys.length h' n'\/D h' n')
def rnd(k:K)(o:Option O)(I:Hf->K->Prop)(D:Ex->Hf->K->Prop):Ex->Env->Hf->K->Prop
 | .normal,_,h,n=>k.num<n.num/\h k=o/\I h n
 | .ret,_,h,n=>k.num<n.num/\h k=o/\D .ret h n
 | .exit i,_,h,n=>k.num<n.num/\h k=o/\D (.exit i) h n
 | .panic _,_,_,_=>False
theorem BY{f:aJ}{fv:V}{ps:List K}{as body:AC}{Q:Ex->Env->Hf->K->Prop}{F:Hf->K->Prop}{ys:List (List V)}(hf:ge E f=some fv)(it:Iter C fv F ys)
 (I:Nat->Hf->K->Prop)(D:Ex->Hf->K->Prop)
 (hE:∀i h1 n1 h' n',I i h1 n1->Ext h1 n1 h' n'->I i h' n')
 (hB:∀i h1 n1 h',I i h1 n1->df n h1 h'->I i h' n1)
 (hF:∀i h n,I i h n->F h n)
 (hl:∀i (hi:i<ys.length),ps.length=ys[i].length)
 (h0:∀h',df n h h'->I 0 h' n.succ)
 (hw:∀i (hi:i<ys.length) h1 n1 E1,n.num<n1.num->I i h1 n1->mS ps ys[i] E=some E1->WC C as E1 h1 n1 (λex E2 h2 n2=>ex=.normal/\h2 n=h1 n/\∀qG,df n h2 qG->WC C body E2 qG n2 (rnd n (qG n) (I (i+1)) D)))
 (hQ:∀h' n',n.num<n'.num->I ys.length h' n'->Q .normal E h' n')
 (hD:∀ex h' n' h2,n.num<n'.num->D ex h' n'->df n h' h2->Q ex E h2 n'):WC C (.mf f ps as body) E h n Q:=by
 intro T H hT hH;let J:Nat->Hf->K->Prop:=λi h' n'=>n.num<n'.num/\I i h' n'/\h' n=some (.lp true .normal T ps as body);let G:Hf->K->Prop:=λh' n'=>n.num<n'.num/\∃ex,(ex.rE=false/\ex.jF=false)/\h' n=some (.lp false ex T ps as body)/\∃h2,df n h2 h'/\D ex h2 n';have key:=it (.y n) J G (hp h n (some (.lp true .normal T ps as body))) n.succ
  (λi h n h' n' hj he=>⟨fN hj.1 he.1,hE _ _ _ _ _ hj.2.1 he,by rw[he.2 _ hj.1];exact hj.2.2⟩)
  (λi h n hj=>hF i h n hj.2.1)
  (λi hi h1 n1 hj=>by
   have Lj:∃E1,mS ps ys[i] E=some E1:=by
    have:∀(ps:List K) (vs:List V) (E:Env),ps.length=vs.length->∃E1,mS ps vs E=some E1:=by
     intro ps
     induction ps with
     | nil=>intro vs E hl;cases vs with | nil=>exact⟨E,rfl⟩ | cons v vs=>simp at hl
     | cons k ps ih=>intro vs E hl;cases vs with | nil=>simp at hl | cons v vs=>exact ih vs _ (by simpa using hl)
    exact this _ _ _ (hl i hi)
   obtain⟨E1,j6⟩:=Lj;refine τ.y hj.2.2 hT j6 (hl i hi) ?_;refine G4 (hw i hi h1 n1 E1 hj.1 hj.2.1 j6) ?_;intro ex E2 h2 n2 hx;refine⟨hx.1,hx.2.1,?_⟩;refine G4 (hx.2.2 _ (lI h2 n _)) ?_;intro ex E3 h3 n3 hr;rw[gw]at hr;cases ex with
   | normal=>exact⟨hr.2.1,rfl,Or.inl ⟨rfl,hr.1,hB _ _ _ _ hr.2.2 (lI _ _ _),gw _ _ _⟩⟩
   | ret=>exact⟨hr.2.1,rfl,Or.inr ⟨rfl,hr.1,.ret,⟨rfl,rfl⟩,gw _ _ _,h3,lI _ _ _,hr.2.2⟩⟩
   | exit id=>exact⟨hr.2.1,rfl,Or.inr ⟨rfl,hr.1,.exit id,⟨rfl,rfl⟩,gw _ _ _,h3,lI _ _ _,hr.2.2⟩⟩
   | panic v=>exact hr.elim)
  ⟨by rw[K.fH];omega,h0 _ (lI _ _ _),gw _ _ _⟩
 obtain⟨v,H',n',⟨f0,h1⟩,h2⟩:=key (H.put (some (.lp true .normal T ps as body)) n) (by rw[jr,hH]);cases h2 with
 | inl h2=>
  obtain⟨g1,g2,g3⟩:=h2;refine⟨⟨.normal,T,.q,H'.put none n,n'⟩,E,gm.step ⟨f0,λf CM=>?_⟩,hT,?_⟩
  ·simp only[ca,hT.ge hf,h1 f CM,g3,Ex.rE,cond_false]
  ·simp only[jr];exact hQ _ _ g1 (hB _ _ _ _ g2 (lI _ _ _))
 | inr h2=>
  obtain⟨g1,ex,⟨g2,g3⟩,g4,h2,g5,g6⟩:=h2;refine⟨⟨ex,T,.q,H'.put none n,n'⟩,E,gm.step ⟨f0,λf CM=>?_⟩,hT,?_⟩
  ·simp only[ca,hT.ge hf,h1 f CM,g4,g2,g3,Bool.or_self,cond_false]
  ·simp only[jr];exact hD _ _ _ _ g1 g6 (λk hk=>by rw[mh _ _ (pN hk),g5 k hk])
end
end
section
variable {C:Nat->Option bP}{E:Env}{h:Hf}{n:K}
def RS(C:Nat->Option bP)(fv:V)(b:K)(c0:Option O)(ys:List (List V)):Prop:=
 ∀(y:V) (I:Nat->Hf->K->Prop) (D:Hf->K->Prop) (h:Hf) (n:K),(∀i h n h' n',I i h n->Ext h n h' n'->I i h' n')->(∀i h n h',I i h n->df b h h'->I i h' n)->b.num<n.num->h b=c0->(∀i (hi:i<ys.length) h n,b.num<n.num->I i h n->τ C y ys[i] h n (λv h' n'=>n.num<=n'.num/\h' b=h b/\((v=.b true/\I (i+1) h' n')\/(v=.b false/\D h' n'))))->I 0 h n->τ C fv [y] h n (λv h' n'=>I ys.length h' n'\/D h' n')
def adm(k b:K)(n0:K)(o ob:Option O)(I:Hf->K->Prop)(D:Ex->Hf->K->Prop):Ex->Env->Hf->K->Prop
 | .normal,_,h,n=>n0.num<=n.num/\h k=o/\h b=ob/\I h n
 | .ret,_,h,n=>n0.num<=n.num/\h k=o/\h b=ob/\D .ret h n
 | .exit i,_,h,n=>n0.num<=n.num/\h k=o/\h b=ob/\D (.exit i) h n
 | .panic _,_,_,_=>False
theorem adn{f:aJ}{fv:V}{ps:List K}{as body:AC}{Q:Ex->Env->Hf->K->Prop}{b:K}{c0:Option O}{ys:List (List V)}(hf:ge E f=some fv)(it:RS C fv b c0 ys)(gz:b.num<n.num)(tx:h b=c0)
 (I:Nat->Hf->K->Prop)(D:Ex->Hf->K->Prop)
 (hE:∀i h1 n1 h' n',I i h1 n1->Ext h1 n1 h' n'->I i h' n')
 (hB:∀i h1 n1 h',I i h1 n1->df n h1 h'->I i h' n1)
 (hBb:∀i h1 n1 h',I i h1 n1->df b h1 h'->I i h' n1)
 (hl:∀i (hi:i<ys.length),ps.length=ys[i].length)
 (h0:∀h',df n h h'->I 0 h' n.succ)
 (hw:∀i (hi:i<ys.length) h1 n1 E1,n.num<n1.num->I i h1 n1->mS ps ys[i] E=some E1->WC C as E1 h1 n1 (λex E2 h2 n2=>ex=.normal/\n1.num<=n2.num/\h2 n=h1 n/\h2 b=h1 b/\∀qG,df n h2 qG->WC C body E2 qG n2 (adm n b n2 (qG n) (qG b) (I (i+1)) D)))
 (hQ:∀h' n',n.num<n'.num->I ys.length h' n'->Q .normal E h' n')
 (hD:∀ex h' n' h2,n.num<n'.num->D ex h' n'->df n h' h2->Q ex E h2 n'):WC C (.mf f ps as body) E h n Q:=by
 intro T H hT hH;let J:Nat->Hf->K->Prop:=λi h' n'=>n.num<n'.num/\I i h' n'/\h' n=some (.lp true .normal T ps as body);let G:Hf->K->Prop:=λh' n'=>n.num<n'.num/\∃ex,(ex.rE=false/\ex.jF=false)/\h' n=some (.lp false ex T ps as body)/\∃h2,df n h2 h'/\D ex h2 n';have key:=it (.y n) J G (hp h n (some (.lp true .normal T ps as body))) n.succ
  (λi h n h' n' hj he=>⟨fN hj.1 he.1,hE _ _ _ _ _ hj.2.1 he,by rw[he.2 _ hj.1];exact hj.2.2⟩)
  (λi h1 n1 h' hj he=>⟨hj.1,hBb _ _ _ _ hj.2.1 he,by rw[he _ (by omega)];exact hj.2.2⟩)
  (by rw[K.fH];omega)
  (by rw[mh _ _ (pN (by omega))];exact tx)
  (λi hi h1 n1 rf hj=>by
   have Lj:∃E1,mS ps ys[i] E=some E1:=by
    have:∀(ps:List K) (vs:List V) (E:Env),ps.length=vs.length->∃E1,mS ps vs E=some E1:=by
     intro ps
     induction ps with
     | nil=>intro vs E hl;cases vs with | nil=>exact⟨E,rfl⟩ | cons v vs=>simp at hl
     | cons k ps ih=>intro vs E hl;cases vs with | nil=>simp at hl | cons v vs=>exact ih vs _ (by simpa using hl)
    exact this _ _ _ (hl i hi)
   obtain⟨E1,j6⟩:=Lj;refine τ.y hj.2.2 hT j6 (hl i hi) ?_;refine G4 (hw i hi h1 n1 E1 hj.1 hj.2.1 j6) ?_;intro ex E2 h2 n2 hx;refine⟨hx.1,hx.2.2.1,?_⟩;have ado:=hx.2.1;have oJ:=hj.1;refine G4 (hx.2.2.2.2 _ (lI h2 n _)) ?_;intro ex E3 h3 n3 hr;have ebn:∀(o:Option O),hp h2 n o b=h2 b:=λo=>mh _ _ (pN (by omega));have Lk:∀(o:Option O),hp h3 n o b=h3 b:=λo=>mh _ _ (pN (by omega));rw[gw,ebn]at hr;cases ex with
   | normal=>exact⟨hr.2.1,rfl,by have:=hr.1;omega,by rw[Lk,hr.2.2.1,hx.2.2.2.1],Or.inl ⟨rfl,by have:=hr.1;omega,hB _ _ _ _ hr.2.2.2 (lI _ _ _),gw _ _ _⟩⟩
   | ret=>exact⟨hr.2.1,rfl,by have:=hr.1;omega,by rw[Lk,hr.2.2.1,hx.2.2.2.1],Or.inr ⟨rfl,by have:=hr.1;omega,.ret,⟨rfl,rfl⟩,gw _ _ _,h3,lI _ _ _,hr.2.2.2⟩⟩
   | exit id=>exact⟨hr.2.1,rfl,by have:=hr.1;omega,by rw[Lk,hr.2.2.1,hx.2.2.2.1],Or.inr ⟨rfl,by have:=hr.1;omega,.exit id,⟨rfl,rfl⟩,gw _ _ _,h3,lI _ _ _,hr.2.2.2⟩⟩
   | panic v=>exact hr.elim)
  ⟨by rw[K.fH];omega,h0 _ (lI _ _ _),gw _ _ _⟩
 obtain⟨v,H',n',⟨f0,h1⟩,h2⟩:=key (H.put (some (.lp true .normal T ps as body)) n) (by rw[jr,hH]);cases h2 with
 | inl h2=>
  obtain⟨g1,g2,g3⟩:=h2;refine⟨⟨.normal,T,.q,H'.put none n,n'⟩,E,gm.step ⟨f0,λf CM=>?_⟩,hT,?_⟩
  ·simp only[ca,hT.ge hf,h1 f CM,g3,Ex.rE,cond_false]
  ·simp only[jr];exact hQ _ _ g1 (hB _ _ _ _ g2 (lI _ _ _))
 | inr h2=>
  obtain⟨g1,ex,⟨g2,g3⟩,g4,h2,g5,g6⟩:=h2;refine⟨⟨ex,T,.q,H'.put none n,n'⟩,E,gm.step ⟨f0,λf CM=>?_⟩,hT,?_⟩
  ·simp only[ca,hT.ge hf,h1 f CM,g4,g2,g3,Bool.or_self,cond_false]
  ·simp only[jr];exact hD _ _ _ _ g1 g6 (λk hk=>by rw[mh _ _ (pN hk),g5 k hk])
end
section
def nC(k:IntKind):List Nat->List V
 | []=>[]
 | a::l=>.i k (a:Nat)::nC k l
def uC:S->List V
 | []=>[]
 | a::l=>.i .u8 (a.toNat:Nat)::uC l
section
variable {k:IntKind}
theorem Ll(l:List Nat):(nC k l).length=l.length:=by induction l<;>simp_all [nC]
theorem RT(l:List Nat):nC k l=eI k (l.map λ(a:Nat)=>(a:Int)):=by induction l<;>simp_all [nC,eI]
theorem adp:∀{l:List Nat} {i:Nat} (h:i<l.length),nth (nC k l) i=some (.i k (l[i]:Nat)):=by
 intro l
 induction l with
 | nil=>intro i h;simp at h
 | cons a l ih=>intro i h;cases i with
  | zero=>rfl
  | succ i=>simp only[nC,nth,xw];exact ih (by simpa using h)
theorem RU:∀{l:S} {i:Nat} (h:i<l.length),nth (uC l) i=some (.i .u8 (l[i].toNat:Nat)):=by
 intro l
 induction l with
 | nil=>intro i h;simp at h
 | cons a l ih=>intro i h;cases i with
  | zero=>rfl
  | succ i=>simp only[uC,nth,xw];exact ih (by simpa using h)
theorem Ln(a b:List Nat):nC k (a++b)=nC k a++nC k b:=by induction a<;>simp_all [nC]
theorem RV(a b:S):uC (a++b)=uC a++uC b:=by induction a<;>simp_all [uC]
theorem adq(l:List Nat)(i:Nat):(nC k l).take i=nC k (l.take i):=by
 induction l generalizing i with
 | nil=>simp[nC]
 | cons a l ih=>cases i<;>simp_all [nC]
theorem adr(l:List Nat)(i:Nat):(nC k l).drop i=nC k (l.drop i):=by
 induction l generalizing i with
 | nil=>simp[nC]
 | cons a l ih=>cases i<;>simp_all [nC]
theorem ads(l:List Nat):bN (nC k l)=true:=by induction l<;>simp_all [nC,bN,V.one]
theorem adt(x:Nat):∀(l:List Nat) (i:Nat),(nC k l).set i (.i k (x:Nat))=nC k (l.set i x):=by
 intro l
 induction l with
 | nil=>intro i;rfl
 | cons a l ih=>intro i;cases i with
  | zero=>rfl
  | succ i=>simp only[nC,xC,ih]
theorem Aj(m:Nat):gu [.i k 0] m=nC k (List.replicate m 0):=by
 induction m with
 | zero=>rfl
 | succ m ih=>simp only[gu,ih,Dm,nC,vM,List.nil_append];rfl
end
def bj(h:Hf)(n:K)(k:IntKind)(v:V)(l:List Nat):Prop:=ρ h n 1 v l.length (nC k l)
section
variable {h h':Hf}{n n':K}{k:IntKind}{v:V}{l:List Nat}
theorem bj.ext(a:bj h n k v l)(e:Ext h n h' n'):bj h' n' k v l:=ρ.ext a e
theorem bj.get(a:bj h n k v l){i:Nat}(hi:i<l.length)(sz:Nat):cD h false sz (.p v.blk (v.off+i*1))=some (.i k (l[i]:Nat)):=by rw[ka];exact ρ.get a (adp hi) sz
theorem bj.nil:bj h n k .ns []:=ρ.ns h n 1
theorem bj.aA{b:K}(a:bj h n k v l)(e:df b h h')(hb:v=.ns\/v.blk.num≠b.num):bj h' n k v l:=ρ.aA a e hb
end
theorem ρ.at_{h0 h:Hf}{n0 n:K}{z:Nat}{v:V}{len:Nat}{cs:List V}(a:ρ h0 n0 z v len cs)(e:Ext h0 n0 h n):ρ h n0 z v len cs:=by
 obtain⟨h1,h2⟩:=a;refine⟨h1,h2.imp id λ⟨⟨b,o,c,h3,h4⟩,row,h5,h6⟩=>⟨⟨b,o,c,h3,h4⟩,row,?_,h6⟩⟩;have:v.blk=b:=by cases h3 with | inl e=>rw[e.1];rfl | inr e=>rw[e];rfl
 rw[e.row (by rw[this];exact h4)];exact h5
theorem ρ.up{h:Hf}{n0 n:K}{z:Nat}{v:V}{len:Nat}{cs:List V}(a:ρ h n0 z v len cs)(e:n0.num<=n.num):ρ h n z v len cs:=a.ext ⟨e,λ_ _=>rfl⟩
theorem ρ.El{h h':Hf}{n0 b:K}{z:Nat}{v:V}{len:Nat}{cs:List V}(a:ρ h n0 z v len cs)(e:df b h h')(hb:n0.num<=b.num):ρ h' n0 z v len cs:=a.at_ (n:=n0) ((Ext.refl h n0).aA e hb)
theorem bj.at_{h0 h:Hf}{n0 n:K}{k:IntKind}{v:V}{l:List Nat}(a:bj h0 n0 k v l)(e:Ext h0 n0 h n):bj h n0 k v l:=ρ.at_ a e
theorem bj.up{h:Hf}{n0 n:K}{k:IntKind}{v:V}{l:List Nat}(a:bj h n0 k v l)(e:n0.num<=n.num):bj h n k v l:=ρ.up a e
theorem bj.El{h h':Hf}{n0 b:K}{k:IntKind}{v:V}{l:List Nat}(a:bj h n0 k v l)(e:df b h h')(hb:n0.num<=b.num):bj h' n0 k v l:=ρ.El a e hb
theorem bj.sub{h:Hf}{n0:K}{k:IntKind}{v:V}{l:List Nat}{i j:Nat}(a:ρ h n0 1 v (j - i) (((nC k l).drop (i*1)).take ((j - i)*1)))(hj:j<=l.length):bj h n0 k v ((l.drop i).take (j - i)):=by
 rw[ka,ka,adr,adq]at a;unfold bj;have:((l.drop i).take (j - i)).length=j - i:=by simp;omega
 rw[this];exact a
theorem jL{v w:V}(hv:v.one=true)(hw:w.one=true):bN [v,w]=true:=by simp only[bN,hv,hw];rfl
theorem HY{α:Type}(v:α):∀{l:List α} {i:Nat},i<l.length->eW [v] l i=some (l.set i v):=by
 intro l
 induction l with
 | nil=>intro i h;simp at h
 | cons a l ih=>
  intro i h;cases i with
  | zero=>simp[eW,over]
  | succ i=>simp only[eW,ih (by simpa using h),xC]
theorem yC{k:IntKind}{x:Nat}{l:List Nat}{i:Nat}(hi:i<l.length)(o:Nat)(ho:o=i):mG (nC k l) 0 o 1 (.i k (x:Nat))=some (nC k (l.set i x)):=by
 subst ho;have:mG (nC k l) 0 o 1 (.i k (x:Nat))=eW [.i k (x:Nat)] (nC k l) o:=by simp[mG,V.cells,bN,V.one,jE]
 rw[this,HY _ (by rw[Ll];exact hi),adt]
section
variable {C:Nat->Option bP}{E:Env}{h:Hf}{n:K}{q:Env->Hf->K->Prop}{l:List AO}{ah:Nat}{k:V->Hf->K->Prop}
theorem adu{e z bytes m len:Nat}{zl new cs:List V}{s x:aJ}{b:K}{v:V}(hs:ge E s=some (.sl b 0 len len))(ho:ρ h n z (.sl b 0 len len) len cs)(hx:ge E x=some v)(a:ρ h n z v m new)(h1:(len+m)*bytes<=1000000000)(h2:bytes<=100000)(h3:len+m<=1000000000)
 (hk:∀v' h' n',ρ h' n' z v' (len+m) (cs++new)->Ext h n h' n'->n'.num<=n.num+1->(v'.blk=b\/v'.blk=n)->k v' h' n'):SO C (.app e z bytes zl false s x) E h n k:=
 qw (λ_ _ _ _=>rfl) λT H hT hH=>by
  have po:(!(Nat.ble (Nat.mul (Nat.add (V.len (.sl b 0 len len)) m) bytes) 1000000000&&Nat.ble bytes 100000&&Nat.ble (Nat.add (V.len (.sl b 0 len len)) m) 1000000000))=false:=room (l:=len) (m:=m) (bytes:=bytes) h1 h2 h3;by_cases hm:m=0
  ·subst hm;have wB:new=[]:=by have:=a.1;simpa using this
   subst wB;have hb:Nat.ble (Nat.add len 0) len=true:=jE (Γ _);have fM:Nat.beq 0 0=true:=rfl;refine⟨.sl b 0 len len,H,n,?_,?_⟩
   ·simp only[simple,hT.ge hs,hT.ge hx,a.elems hH,cond_false,ra,po,hb,fM,cond_true]
   ·rw[hH];exact hk _ _ _ (by rw[List.append_nil,j8];exact ho) (Ext.refl h n) (by omega) (Or.inl U)
  ·have hb:Nat.ble (Nat.add len m) len=false:=by rw[jV];simp<;>omega
   refine⟨.su n 0 (len+m) z,H.put (some (.c (cs++new) e 0)) n,n.succ,?_,?_⟩
   ·simp only[simple,hT.ge hs,hT.ge hx,a.elems hH,cond_false,ra,po,hb,ho.elems hH,j4];rfl
   ·rw[jr,hH];have hl:(cs++new).length=(len+m)*z:=by rw[gX,ho.1,a.1,iO]
    refine hk _ _ _ ⟨hl,Or.inr ⟨⟨n,0,0,Or.inr U,by rw[K.fH];omega⟩,cs++new,?_,oM hl⟩⟩ ((Ext.refl h n).new _) (by rw[K.fH];omega) (Or.inr U);show ja _ n=_;rw[aaU];rfl
theorem RW{d:K}{e z bytes m len:Nat}{zl new cs:List V}{s x:aJ}{b:K}{v:V}(hs:ge E s=some (.sl b 0 len len))(ho:ρ h n z (.sl b 0 len len) len cs)(hx:ge E x=some v)(a:ρ h n z v m new)(h1:(len+m)*bytes<=1000000000)(h2:bytes<=100000)(h3:len+m<=1000000000)
 (hk:∀v' h' n',ρ h' n' z v' (len+m) (cs++new)->Ext h n h' n'->n'.num<=n.num+1->(v'.blk=b\/v'.blk=n)->WO C l ((d,v')::E) h' n' q):WO C (⟨some d,.app e z bytes zl false s x,none,ah⟩::l) E h n q:=cX (adu hs ho hx a h1 h2 h3 hk)
theorem adv:∀bs:S,ofBytes (uC bs)=some (bR bs):=by
 intro bs
 induction bs with
 | nil=>rfl
 | cons b l ih=>
  have hb:Nat.blt b.toNat 256=true:=by rw[gf];simpa using b.toNat_lt
  show ofBytes (.i .u8 (.ofNat b.toNat)::uC l)=_;simp only[ofBytes,ih,hb,cond_true];rfl
theorem adw{x:aJ}{v:V}{bs:S}(hx:ge E x=some v)(a:ρ h n 1 v bs.length (uC bs))(hk:k (X.st bs) h n):SO C (.cv .zA x) E h n k:=
 gn (λ_ _ _ _=>rfl) (λT H hT hH=>by
  have e:=a.elems hH;have DS:∀l m,v≠.s l m:=by
   intro l m hv;subst hv;obtain⟨_,h2⟩:=a;cases h2 with
   | inl h=>cases h.1
   | inr h=>obtain⟨⟨b,o,c,h3,_⟩,_⟩:=h;cases h3 with | inl e=>cases e.1 | inr e=>cases e
  simp only[simple,hT.ge hx,rb,e,adv]) hk
theorem adx{d:K}{x:aJ}{v:V}{bs:S}(hx:ge E x=some v)(a:ρ h n 1 v bs.length (uC bs))(hk:WO C l ((d,X.st bs)::E) h n q):WO C (⟨some d,.cv .zA x,none,ah⟩::l) E h n q:=cX (adw hx a hk)
theorem ady{t:S}(ht:0<t.length):(t[0].toNat<128->rune t.length (bR t)=(t[0].toNat,1))/\(128<=t[0].toNat->128<=(rune t.length (bR t)).1/\(rune t.length (bR t)).1<=1114111/\((rune t.length (bR t)).1<55296\/57344<=(rune t.length (bR t)).1)/\1<=(rune t.length (bR t)).2/\(rune t.length (bR t)).2<=t.length/\∀j (hj:j<t.length),j<(rune t.length (bR t)).2->128<=t[j].toNat):=by
 have e0:Nat.mod (bR t) 256=t[0].toNat:=by have:=DO t ht;rw[←this];show _=Nat.mod (Nat.div (bR t) (256 ^ 0)) 256;rw[Nat.pow_zero];show _=Nat.mod (bR t / 1) 256;rw[Nat.div_one]
 have e1:∀h:1<t.length,Nat.mod (Nat.div (bR t) 256) 256=t[1].toNat:=λh=>DO t h;have e2:∀h:2<t.length,Nat.mod (Nat.div (bR t) 65536) 256=t[2].toNat:=λh=>DO t h;have e3:∀h:3<t.length,Nat.mod (Nat.div (bR t) 16777216) 256=t[3].toNat:=λh=>DO t h;have hb:=t[0].toNat_lt;unfold rune;simp only[e0];constructor
 ·intro h;simp only[gf,h,decide_true,cond_true]
 ·intro h;have hn:Nat.blt t[0].toNat 128=false:=by rw[gf];simp<;>omega
  have one:∀j (hj:j<t.length),j<1->128<=t[j].toNat:=λj hj h1=>by
   have:j=0:=by omega
   subst this;exact h
  have bad:128<=((65533,1):Nat×Nat).1/\((65533,1):Nat×Nat).1<=1114111/\(((65533,1):Nat×Nat).1<55296\/57344<=((65533,1):Nat×Nat).1)/\1<=((65533,1):Nat×Nat).2/\((65533,1):Nat×Nat).2<=t.length/\∀j (hj:j<t.length),j<((65533,1):Nat×Nat).2->128<=t[j].toNat:=⟨by omega,by omega,by omega,by omega,ht,one⟩;simp only[hn,cond_false];generalize rf:Nat.mod (Nat.div (bR t) 256) 256=b1 at*;generalize fM:Nat.mod (Nat.div (bR t) 65536) 256=b2 at*;generalize zd:Nat.mod (Nat.div (bR t) 16777216) 256=b3 at*;generalize DX:t[0].toNat=b0 at*;simp only[iW,bG,qm,dD,gf,jV,bT];have adz:∀x:Nat,Nat.div x 64=x / 64:=λ_=>rfl;simp only[adz];split
  ·rename_i h2;obtain⟨_,h3,h4⟩:=h2;split
   ·rename_i h5;refine⟨h5,by omega,by omega,by omega,h3,λj hj h6=>?_⟩;have:j=0\/j=1:=by omega
    rcases this with rfl | rfl
    ·omega
    ·rw[←e1 h3];omega
   ·exact bad
  ·split
   ·rename_i h2;obtain⟨⟨_,h3,h4⟩,h5,h6⟩:=h2;split
    ·rename_i h7;refine⟨by omega,by omega,by omega,by omega,h5,λj hj h8=>?_⟩;have:j=0\/j=1\/j=2:=by omega
     rcases this with rfl | rfl | rfl
     ·omega
     ·rw[←e1 h3];omega
     ·rw[←e2 h5];omega
    ·exact bad
   ·split
    ·rename_i h2;obtain⟨⟨⟨_,h3,h4⟩,h5,h6⟩,h7,h8⟩:=h2;split
     ·rename_i h9;refine⟨by omega,by omega,by omega,by omega,h7,λj hj lj=>?_⟩;have:j=0\/j=1\/j=2\/j=3:=by omega
      rcases this with rfl | rfl | rfl | rfl
      ·omega
      ·rw[←e1 h3];omega
      ·rw[←e2 h5];omega
      ·rw[←e3 h7];omega
     ·exact bad
    ·exact bad
theorem HZ{d:K}{x:aJ}{s:S}(hx:ge E x=some (X.st s))(hk:∀h' n',n'.num=n.num+1->h' n=some (.it s.length (bR s) 0)->Ext h n h' n'->WO C l ((d,.p n 0)::E) h' n' q):WO C (⟨some d,.Dp false x,none,ah⟩::l) E h n q:=
 cX (DQ (λ_ _ _ _=>rfl) (λT H hT hH=>by simp only[simple,hT.ge hx]) (hk _ _ (K.fH n) (gw _ _ _) ((Ext.refl h n).new _)))
theorem BZ{d:K}{x:aJ}{b:K}{s:S}{pos:Nat}(hx:ge E x=some (.p b 0))(hb:h b=some (.it s.length (bR s) pos))(hp:s.length<=pos)(hk:WO C l ((d,.u [.b false])::E) h n q):WO C (⟨some d,.Dq true x,none,ah⟩::l) E h n q:=
 cX (gn (λ_ _ _ _=>rfl) (λT H hT hH=>by
  have jO:H.get b=some (.it s.length (bR s) pos):=by rw[hH];exact hb
  have:Nat.blt pos s.length=false:=by rw[gf];simp<;>omega
  simp only[simple,hT.ge hx,jO,this,cond_false]) hk)
structure Rn(s:S)(pos r w:Nat):Prop where
 lt:pos<s.length
 lo:s[pos].toNat<128->r=s[pos].toNat/\w=1
 hi:128<=s[pos].toNat->128<=r/\r<=1114111/\(r<55296\/57344<=r)
 one:1<=w
 le:pos+w<=s.length
 all:128<=s[pos].toNat->∀j (hj:j<s.length),pos<=j->j<pos+w->128<=s[j].toNat
theorem H4{d:K}{x:aJ}{b:K}{s:S}{pos:Nat}(hx:ge E x=some (.p b 0))(hb:h b=some (.it s.length (bR s) pos))(hp:pos<s.length)
 (hk:∀r w h',Rn s pos r w->h' b=some (.it s.length (bR s) (pos+w))->df b h h'->WO C l ((d,.u [.b true,.i .i64 (pos:Nat),.i .i32 (r:Nat)])::E) h' n q):WO C (⟨some d,.Dq true x,none,ah⟩::l) E h n q:=
 cX (qw (λ_ _ _ _=>rfl) (λT H hT hH=>by
  have jO:H.get b=some (.it s.length (bR s) pos):=by rw[hH];exact hb
  have ψ:Nat.blt pos s.length=true:=by rw[gf];simpa using hp
  have ht:0<(s.drop pos).length:=by simp;omega
  have En:=ady ht;have hz:(s.drop pos)[0]=s[pos]:=by simp
  have hle:(s.drop pos).length=s.length - pos:=by simp
  have er:rune (Nat.sub s.length pos) (Nat.div (bR s) (Nat.pow 256 pos))=rune (s.drop pos).length (bR (s.drop pos)):=by rw[hle];show rune (s.length - pos) (bR s / 256 ^ pos)=_;rw[Kz]
  refine⟨_,_,_,by simp only[simple,hT.ge hx,jO,ψ,cond_true];rfl,?_⟩;rw[jr,hH,er];rw[hz]at En;refine hk _ _ _ ⟨hp,λh=>?_,λh=>?_,?_,?_,λh j hj h1 h2=>?_⟩ (gw _ _ _) (lI _ _ _)
  ·rw[En.1 h];exact⟨rfl,rfl⟩
  ·have:=En.2 h;exact⟨this.1,this.2.1,this.2.2.1⟩
  ·by_cases h:s[pos].toNat<128
   ·rw[En.1 h];exact Γ _
   ·exact(En.2 (by omega)).2.2.2.1
  ·by_cases h:s[pos].toNat<128
   ·rw[En.1 h];exact hp
   ·have:=(En.2 (by omega)).2.2.2.2.1;omega
  ·have:=(En.2 h).2.2.2.2.2 (j - pos) (by omega) (by omega);have e:(s.drop pos)[j - pos]'(by omega)=s[j]:=by
    rw[List.getElem_drop];congr 1;omega
   rw[e]at this;exact this))
theorem kp{d:K}{x y:aJ}{qk:eH}{ik:IntKind}{a b c:Int}(hx:ge E x=some (.i ik a))(hy:ge E y=some (.i ik b))(he:a+b=c)(hr:oL ik c)(hk:WO C l ((d,.i ik c)::E) h n q):WO C (⟨some d,.bin .add qk x y,none,ah⟩::l) E h n q:=by subst he;exact cK hx hy hr hk
theorem Eo{m:Made}{P:List PR}{B:List PB}{i:Nat}{d:K}{x y:aJ}{qk:eH}{ik:IntKind}{a b c:Int}(hx:ge E x=some (.i ik a))(hy:ge E y=some (.i ik b))(he:a+b=c)(hr:oL ik c)(hk:WD C l (i+1) ((d,.i ik c)::E) h n m P B q):WD C (⟨some d,.bin .add qk x y,none,ah⟩::l) i E h n m P B q:=by subst he;exact yB hx hy hr hk
theorem kQ{d:K}{x y:aJ}{qk:eH}{ik:IntKind}{a b c:Int}(hx:ge E x=some (.i ik a))(hy:ge E y=some (.i ik b))(he:a - b=c)(hr:oL ik c)(hk:WO C l ((d,.i ik c)::E) h n q):WO C (⟨some d,.bin .sub qk x y,none,ah⟩::l) E h n q:=by subst he;exact jg hx hy hr hk
theorem B0{m:Made}{P:List PR}{B:List PB}{i:Nat}{d:K}{x y:aJ}{qk:eH}{ik:IntKind}{a b c:Int}(hx:ge E x=some (.i ik a))(hy:ge E y=some (.i ik b))(he:a - b=c)(hr:oL ik c)(hk:WD C l (i+1) ((d,.i ik c)::E) h n m P B q):WD C (⟨some d,.bin .sub qk x y,none,ah⟩::l) i E h n m P B q:=by subst he;exact BU hx hy hr hk
theorem Lo{d:K}{x y:aJ}{qk:eH}{ik:IntKind}{a b c:Int}(hx:ge E x=some (.i ik a))(hy:ge E y=some (.i ik b))(he:a*b=c)(hr:oL ik c)(hk:WO C l ((d,.i ik c)::E) h n q):WO C (⟨some d,.bin .mul qk x y,none,ah⟩::l) E h n q:=by subst he;exact adb hx hy hr hk
theorem Ak{m:Made}{P:List PR}{B:List PB}{i:Nat}{d:K}{x y:aJ}{qk:eH}{ik:IntKind}{a b c:Int}(hx:ge E x=some (.i ik a))(hy:ge E y=some (.i ik b))(he:a*b=c)(hr:oL ik c)(hk:WD C l (i+1) ((d,.i ik c)::E) h n m P B q):WD C (⟨some d,.bin .mul qk x y,none,ah⟩::l) i E h n m P B q:=by subst he;exact ade hx hy hr hk
end
end
section
section
variable {C:Nat->Option bP}{E:Env}{h:Hf}{n:K}{q:Env->Hf->K->Prop}{l:List AO}{ah:Nat}{k:V->Hf->K->Prop}
theorem adA{m z i o:Nat}{x y:aJ}{b:K}{j:IntKind}(hx:ge E x=some (.p b o))(hy:ge E y=some (.i j (i:Nat)))(hi:i<m)(hk:k (.p b (o+i*z)) h n):SO C (.iad (some m) z x y) E h n k:=
 gn (λ_ _ _ _=>rfl) (λT H hT hH=>by
  have e2:aI T y=some (.i j (Int.ofNat i)):=hT.ge hy;have e3:Nat.blt i m=true:=by rw[gf];simpa using hi
  simp only[simple,hT.ge hx,e2,e3,cond_true];rfl) hk
theorem H5{d:K}{m z i o:Nat}{x y:aJ}{b:K}{j:IntKind}(hx:ge E x=some (.p b o))(hy:ge E y=some (.i j (i:Nat)))(hi:i<m)(hk:WO C l ((d,.p b (o+i*z))::E) h n q):WO C (⟨some d,.iad (some m) z x y,none,ah⟩::l) E h n q:=cX (adA hx hy hi hk)
theorem adB{d x:aJ}{b:K}{z len e:Nat}{ef cs:List V}{v:V}(hd:ge E d=some (.sl b 0 len len))(hb:h b=some (.c ef e 0))(zO:ef.length=len*z)(hx:ge E x=some v)(a:ρ h n z v len cs)(eF:bN cs=true)
 (hk:∀h',h' b=some (.c cs e 0)->df b h h'->k (.i .i64 (len:Nat)) h' n):SO C (.zD z d x) E h n k:=
 qw (λ_ _ _ _=>rfl) λT H hT hH=>by
  have OE:H.get b=some (.c ef e 0):=by rw[hH];exact hb
  have iV:cs.length=len*z:=a.1;have e1:elems H z (.sl b 0 len len)=some (len,ef):=by have:dt ef 0 (Nat.mul len z)=some ef:=oM zO;simp only[elems,rowAt,OE,O.row,this]
  have e2:=a.elems hH;have DS:∀l m,V.sl b 0 len len≠.s l m:=λl m h=>by cases h
  have xS:(bif Nat.ble len len then len else len)=len:=by cases Nat.ble len len<;>rfl
  by_cases h0:len=0
  ·subst h0;have hc0:cs=[]:=by simpa using iV
   have vK:ef=[]:=by simpa using zO
   subst hc0;subst vK;refine⟨.i .i64 0,H,n,?_,by rw[hH];exact hk h hb (λ_ _=>rfl)⟩;have eJ:Nat.beq (bif Nat.ble 0 0 then 0 else 0) 0=true:=by rw[xS];rfl
   simp only[simple,hT.ge hd,hT.ge hx,e1,e2,eJ,cond_true]
  ·refine⟨.i .i64 (len:Nat),H.put (some (.c cs e 0)) b,n,?_,by rw[jr,hH];exact hk _ (gw _ _ _) (lI _ _ _)⟩;have eJ:Nat.beq len 0=false:=by rw[dD];simp[h0]
   have ht:takeN (Nat.mul len z) cs=some cs:=by
    have:Nat.mul len z=cs.length:=iV.symm;rw[this];have key:∀l:List V,takeN l.length l=some l:=by
     intro l;induction l with
     | nil=>rfl
     | cons a l ih=>simp only[fG,takeN,ih]
    exact key cs
   have dP:iP H b 0 cs=some (H.put (some (.c cs e 0)) b):=by
    have hp:eW cs ef 0=some cs:=by simp only[eW];exact Rv _ _ (iV.trans zO.symm)
    simp only[iP,OE,Nat.ble,eF,nN,cond_true,hp]
   simp only[simple,hT.ge hd,hT.ge hx,e1,e2,xS,eJ,cond_false,ht,dP];rfl
theorem RX{d:K}{dx x:aJ}{b:K}{z len e:Nat}{ef cs:List V}{v:V}(hd:ge E dx=some (.sl b 0 len len))(hb:h b=some (.c ef e 0))(zO:ef.length=len*z)(hx:ge E x=some v)(a:ρ h n z v len cs)(eF:bN cs=true)
 (hk:∀h',h' b=some (.c cs e 0)->df b h h'->WO C l ((d,.i .i64 (len:Nat))::E) h' n q):WO C (⟨some d,.zD z dx x,none,ah⟩::l) E h n q:=cX (adB hd hb zO hx a eF hk)
end
end
end Go.Ev.X
section
set_option maxRecDepth 100000
namespace Go.Ev.X
open Go Go.Ev
abbrev ξ(a b:AC):AC:=.seq a b
abbrev aq(n:Nat)(c:AC):AC:=.block n c
abbrev bO(c:AC):AC:=.loop c
abbrev aM(l:List AO):AC:=.reg l
abbrev bJ(n:Nat):AC:=.exit n
abbrev ab:AC:=.skip
abbrev Ξ:AC:=.ret
abbrev Θ(x:K)(a b:AC):AC:=.cond (.t x) a b
abbrev ζ(l:List AO)(c:AC):AC:=.seq (.reg l) c
abbrev ay(k:K)(o:AO):AO:=⟨o.1,o.2,some (k,true),0⟩
abbrev aa(k:K)(o:AO):AO:=⟨o.1,o.2,some (k,false),0⟩
abbrev μ(n:Nat)(o:AO):AO:=⟨o.1,o.2,o.3,n⟩
abbrev δ(a b:K):AO:=⟨some a,.mv (.t b),none,0⟩
abbrev φ(a:K)(b:Nat)(c:K):AO:=⟨some a,.ld false b (.t c),none,0⟩
abbrev ω(a:K)(b:Nat)(c:K):AO:=⟨some a,.fad b (.t c),none,0⟩
abbrev aB(a:K)(b:IntKind)(c:Int):AO:=⟨some a,.mv (.c (.i b c)),none,0⟩
abbrev au(a:K)(b:Nat)(c:K):AO:=⟨some a,.len b (.t c),none,0⟩
abbrev aS(a:K)(b:Nat)(c d:K):AO:=⟨some a,.iad none b (.t c) (.t d),none,0⟩
abbrev aX(a:K)(b:Nat)(c:K):AO:=⟨some a,.hU (.c (.f b [] [])) [(.t c)],none,0⟩
abbrev bK(a b:K)(c:IntKind)(d:Int):AO:=⟨some a,.bin .add (.one .bool) (.t b) (.c (.i c d)),none,0⟩
abbrev ch(a:K)(b:Nat)(c d:K):AO:=⟨some a,.hU (.c (.f b [] [])) [(.t c),(.t d)],none,0⟩
abbrev cC(a b:K)(c:IntKind)(d:Int):AO:=⟨some a,.bin .eql (.one .int) (.t b) (.c (.i c d)),none,0⟩
abbrev cm(a b c:K):AO:=⟨some a,.bin .lss (.one .bool) (.t b) (.t c),none,0⟩
abbrev RY(a:K)(b:Nat):AO:=⟨some a,.new b [.b false,.b false,.b false,.b false,.b false,.b false,.b false,.b false,.b false,.b false,.b false,.b false,.b false,.b false,.b false,.b false,.b false,.b false,.b false,.b false,.b false,.b false,.b false,.b false,.b false,.b false,.b false,.b false,.b false,.b false,.b false,.b false,.b false,.b false,.b false,.b false,.b false,.b false,.b false,.b false,.b false,.b false,.b false,.b false,.b false,.b false,.b false,.b false,.b false,.b false,.b false,.b false,.b false,.b false,.b false,.b false,.b false,.b false,.b false,.b false,.b false,.b false,.b false,.b false,.b false,.b false,.b false,.b false,.b false,.b false,.b false,.b false,.b false,.b false,.b false,.b false,.b false,.b false,.b false,.b false,.b false,.b false,.b false,.b false,.b false,.b false,.b false,.b false,.b false,.b false,.b false,.b false,.b false,.b false,.b false,.b false,.b false,.b false,.b false,.b false,.b false,.b false,.b false,.b false,.b false,.b false,.b false,.b false,.b false,.b false,.b false,.b false,.b false,.b false,.b false,.b false,.b false,.b false,.b false,.b false,.b false,.b false,.b false,.b false,.b false,.b false,.b false,.b false,.b false,.b false,.b false,.b false,.b false,.b false,.b false,.b false,.b false,.b false,.b false,.b false,.b false,.b false,.b false,.b false,.b false,.b false,.b false,.b false,.b false,.b false,.b false,.b false,.b false,.b false,.b false,.b false,.b false,.b false,.b false,.b false,.b false,.b false,.b false,.b false,.b false,.b false,.b false,.b false,.b false,.b false,.b false,.b false,.b false,.b false,.b false,.b false,.b false,.b false,.b false,.b false,.b false,.b false,.b false,.b false,.b false,.b false,.b false,.b false,.b false,.b false,.b false,.b false,.b false,.b false,.b false,.b false,.b false,.b false,.b false,.b false,.b false,.b false,.b false,.b false,.b false,.b false,.b false,.b false,.b false,.b false,.b false,.b false,.b false,.b false,.b false,.b false,.b false,.b false,.b false,.b false,.b false,.b false,.b false,.b false,.b false,.b false,.b false,.b false,.b false,.b false,.b false,.b false,.b false,.b false,.b false,.b false,.b false,.b false,.b false,.b false,.b false,.b false,.b false,.b false,.b false,.b false,.b false,.b false,.b false,.b false,.b false,.b false,.b false,.b false,.b false,.b false],none,0⟩
abbrev bm(a:Nat)(b c:K):AO:=⟨none,.st a (.t b) (.t c),none,0⟩
abbrev bZ(a:K)(b:Nat)(c:K):AO:=⟨some a,.ld true b (.t c),none,0⟩
abbrev dS(a b:K)(c:IntKind)(d:Int):AO:=⟨some a,.bin .sub (.one .bool) (.t b) (.c (.i c d)),none,0⟩
abbrev cA(a:K):AO:=⟨some a,.mv (.c (.b false)),none,0⟩
abbrev dI(a b c:K):AO:=⟨some a,.pick (.t b) (.c (.b true)) (.t c),none,0⟩
abbrev eC(a b c:K):AO:=⟨some a,.pick (.t b) (.t c) (.c (.b false)),none,0⟩
abbrev fy(a b:K)(c:IntKind)(d:Int):AO:=⟨some a,.bin .gtr (.one .bool) (.t b) (.c (.i c d)),none,0⟩
abbrev cR(a:K):AO:=⟨some a,.mv (.c .ns),none,0⟩
abbrev gT(a:K)(b:Nat)(c:K)(d:IntKind)(e:Int):AO:=⟨some a,.hU (.c (.f b [] [])) [(.t c),(.c (.i d e))],none,0⟩
abbrev gy(a b c:K):AO:=⟨some a,.bin .add (.one .bool) (.t b) (.t c),none,0⟩
abbrev dM(a:K)(b:Nat)(c:K):AO:=⟨some a,.box b (.t c),none,0⟩
abbrev iH(a b:K)(c:IntKind)(d:Int):AO:=⟨some a,.bin .geq (.one .bool) (.t b) (.c (.i c d)),none,0⟩
abbrev eb(a b:K)(c:Nat):AO:=⟨some a,.ext (.t b) c,none,0⟩
abbrev iI(a b:K)(c:IntKind)(d:Int):AO:=⟨some a,.bin .neq (.one .int) (.t b) (.c (.i c d)),none,0⟩
abbrev eT(a b:K):AO:=⟨some a,.un .not (.t b),none,0⟩
abbrev jM(a b:K)(c:IntKind)(d:Int):AO:=⟨some a,.bin .lss (.one .bool) (.t b) (.c (.i c d)),none,0⟩
abbrev hK(a:K)(b:IntKind)(c:K):AO:=⟨some a,.cv (.toInt b) (.t c),none,0⟩
abbrev jZ(a b c:K):AO:=⟨some a,.bin .neq (.one .int) (.t b) (.t c),none,0⟩
abbrev lJ(a b:K)(c d:Nat):AO:=⟨some a,.bin .eql (.one .str) (.t b) (.c (.s c d)),none,0⟩
abbrev kz(a b c:K):AO:=⟨some a,.bin .sub (.one .bool) (.t b) (.t c),none,0⟩
abbrev jN(a b c:K):AO:=⟨some a,.idx none (.t b) (.t c),none,0⟩
abbrev mW(a:K)(b:Nat)(c:IntKind)(d:Int)(e f g:Nat)(h:K):AO:=⟨some a,.bsl b [.i c d] e [(f,g,(.t h))],none,0⟩
abbrev oY(a:K)(b c d:Nat)(e:IntKind)(f:Int)(g h:K):AO:=⟨some a,.app b c d [.i e f] false (.t g) (.t h),none,0⟩
abbrev kR(a:K):AO:=⟨some a,.mv (.c (.b true)),none,0⟩
abbrev wC(a:K)(b:Nat)(c:IntKind)(d:Int)(e:IntKind)(f:Int)(g h i:Nat)(j:K)(k l:Nat)(m:K):AO:=⟨some a,.bsl b [.i c d,.i e f] g [(h,i,(.t j)),(k,l,(.t m))],none,0⟩
abbrev rQ(a:K)(b:Nat)(c:IntKind)(d:Int)(e f g h:Nat):AO:=⟨some a,.new b [.i c d,.s e f,.s g h,.ns,.ns],none,0⟩
abbrev kS(a:K)(b:Nat):AO:=⟨some a,.new b [.ns],none,0⟩
abbrev nT(a:K)(b:Nat):AO:=⟨some a,.new b [.b false,.ns],none,0⟩
abbrev tz(a b c:K):AO:=⟨some a,.bin .eql (.one .str) (.t b) (.t c),none,0⟩
abbrev uY(a b c:K):AO:=⟨some a,.bin .eql (.one .int) (.t b) (.t c),none,0⟩
abbrev wD(a b:K)(c d:Nat):AO:=⟨some a,.bin .neq (.one .str) (.t b) (.c (.s c d)),none,0⟩
abbrev oZ(a:K)(b c:Nat):AO:=⟨some a,.mv (.c (.s b c)),none,0⟩
abbrev wE(a:K)(b c d:Nat)(e f:K):AO:=⟨some a,.app b c d [.ns] false (.t e) (.t f),none,0⟩
abbrev uZ(a b:K)(c:IntKind)(d:Int):AO:=⟨some a,.idx none (.t b) (.c (.i c d)),none,0⟩
abbrev B1(a:K)(b c d:Nat)(e:IntKind)(f:Int)(g h i j:Nat)(k l:K):AO:=⟨some a,.app b c d [.i e f,.s g h,.s i j,.ns,.ns] false (.t k) (.t l),none,0⟩
abbrev yD(a b:K)(c:IntKind)(d:Int):AO:=⟨some a,.bin .leq (.one .bool) (.t b) (.c (.i c d)),none,0⟩
abbrev wF(a:K)(b c d:Nat)(e:IntKind)(f:Int)(g h:K):AO:=⟨some a,.msl b c d [.i e f] (.t g) (.t h),none,0⟩
abbrev wG(a:K)(b c:Nat)(d:K):AO:=⟨some a,.bld [.b false,.ns] [(b,c,(.t d))],none,0⟩
abbrev yE(a b c:K):AO:=⟨some a,.sli .str (.t b) (some (.t c)) none none,none,0⟩
abbrev B2(a:K)(b:Nat)(c:IntKind)(d:Int)(e f g h i j k:Nat)(l:K):AO:=⟨some a,.bsl b [.i c d,.s e f,.s g h,.ns,.ns] i [(j,k,(.t l))],none,0⟩
abbrev Al(a b:K)(c:IntKind)(d:Int):AO:=⟨some a,.bin .quo (.one .bool) (.t b) (.c (.i c d)),none,0⟩
abbrev wH(a:K)(b c:Nat)(d:K):AO:=⟨some a,.bld [.ns] [(b,c,(.t d))],none,0⟩
abbrev B3(a:K)(b c:Nat)(d:K)(e f:Nat)(g:K):AO:=⟨some a,.bld [.b false,.ns] [(b,c,(.t d)),(e,f,(.t g))],none,0⟩
abbrev B4(a b:K)(c:IntKind)(d:Int):AO:=⟨some a,.bin .mul (.one .bool) (.t b) (.c (.i c d)),none,0⟩
abbrev yF(a:K)(b c d e:Nat)(f:K):AO:=⟨some a,.bsl b [.ns] c [(d,e,(.t f))],none,0⟩
abbrev Am(a b c:K):AO:=⟨some a,.bin .gtr (.one .bool) (.t b) (.t c),none,0⟩
abbrev wI(a:K)(b c:Nat)(d:K):AO:=⟨some a,.fld false b c (.t d),none,0⟩
abbrev B5(a:K)(b:Nat)(c d:K):AO:=⟨some a,.sli (.sl b) (.t c) none (some (.t d)) none,none,0⟩
abbrev yG(a:Nat)(b:K):AO:=⟨none,.st a (.t b) (.c (.b false)),none,0⟩
abbrev B6(a b c:K):AO:=⟨some a,.bin .mul (.one .bool) (.t b) (.t c),none,0⟩
abbrev B7(a b c:K):AO:=⟨some a,.bin .geq (.one .bool) (.t b) (.t c),none,0⟩
abbrev Ep(a:K)(b:Nat)(c:K)(d e:Nat):AO:=⟨some a,.hU (.c (.f b [] [])) [(.t c),(.c (.s d e))],none,0⟩
abbrev Er(a b:K)(c:IntKind)(d:Int):AO:=⟨some a,.bin .rem (.one .bool) (.t b) (.c (.i c d)),none,0⟩
abbrev B8(a b c:K):AO:=⟨some a,.bin .neq (.one .str) (.t b) (.t c),none,0⟩
abbrev B9(a:K)(b:Nat)(c:K)(d:IntKind)(e:Int):AO:=⟨some a,.iad none b (.t c) (.c (.i d e)),none,0⟩
abbrev H6(a:K)(b:Nat)(c d e f:K):AO:=⟨some a,.hU (.c (.f b [] [])) [(.t c),(.t d),(.t e),(.t f)],none,0⟩
abbrev yH(a:K)(b:Nat)(c:IntKind)(d:Int):AO:=⟨some a,.new b [.i c d],none,0⟩
abbrev Et(a b c:K):AO:=⟨some a,.sli .str (.t b) none (some (.t c)) none,none,0⟩
abbrev An(a b c:K):AO:=⟨some a,.hU (.t b) [(.t c)],none,0⟩
abbrev H7(a b c d:K):AO:=⟨some a,.sli .str (.t b) (some (.t c)) (some (.t d)) none,none,0⟩
abbrev Ao(a:K)(b:Nat)(c:K):AO:=⟨some a,.mfn b [] [(.t c)],none,0⟩
abbrev H8(a:K)(b c d e f g h:Nat)(i:K):AO:=⟨some a,.app b c d [.s e f,.s g h] false (.c .ns) (.t i),none,0⟩
abbrev H9(a b c:K):AO:=⟨some a,.bin .neq (.one .bool) (.t b) (.t c),none,0⟩
abbrev Eu(a:Nat)(b:K)(c:IntKind)(d:Int):AO:=⟨none,.st a (.t b) (.c (.i c d)),none,0⟩
abbrev Ia(a b c d:K):AO:=⟨some a,.hU (.t b) [(.t c),(.t d)],none,0⟩
abbrev Lp(a:K)(b:Nat)(c:K)(d:Nat):AO:=⟨some a,.hU (.c (.f b [] [])) [(.t c),(.c (.f d [] []))],none,0⟩
abbrev Lq(a:K)(b:IntKind)(c:Int)(d:K):AO:=⟨some a,.bin .add (.one .bool) (.c (.i b c)) (.t d),none,0⟩
abbrev Lr(a b:K)(c:IntKind)(d:Int):AO:=⟨some a,.bin .shr (.one .bool) (.t b) (.c (.i c d)),none,0⟩
abbrev Ib(a:Nat)(b:K):AO:=⟨none,.st a (.t b) (.c (.b true)),none,0⟩
abbrev Lt(a b c:K):AO:=⟨some a,.bin .leq (.one .bool) (.t b) (.t c),none,0⟩
abbrev Lu(a b:K):AO:=⟨some a,.bin .eql (.one .slice) (.t b) (.c .ns),none,0⟩
abbrev Ew(a:K):AO:=⟨some a,.mv (.c .nf),none,0⟩
abbrev Ic(a b:K):AO:=⟨some a,.Dp false (.t b),none,0⟩
abbrev Ie(a b:K):AO:=⟨some a,.Dq true (.t b),none,0⟩
abbrev RZ(a:K)(b c d:Nat):AO:=⟨some a,.mif b (.c (.s c d)),none,0⟩
abbrev R0(a b c:K):AO:=⟨some a,.bin .quo (.one .bool) (.t b) (.t c),none,0⟩
abbrev R1(a b c:K):AO:=⟨some a,.bin .rem (.one .bool) (.t b) (.t c),none,0⟩
abbrev R2(a b c:K):AO:=⟨some a,.bin .eql (.one .bool) (.t b) (.t c),none,0⟩
def R3:AC:=ζ [cA k2] Ξ
def R4:AC:=aM [δ aY k3,bK aU aY .i64 1,δ k3 aU]
def R5:AC:=ξ (ζ [δ aN k3,δ aO k0,au aT 1 aO,cm aV aN aT] (Θ aV ab (bJ 0))) (ξ (aq 1 (ζ [δ aZ k0,δ bf k3,aS bk 5 aZ bf,ω bp 2 bk,φ bL 1 bp,au bz 0 bL,fy bD bz .i64 200,δ bH bD,aa bH (δ bU k0),aa bH (δ bX k3),aa bH (aS bY 5 bU bX),aa bH (ω cj 1 bY),aa bH (φ cn 1 cj),aa bH (au bV 0 cn),aa bH (fy cE bV .i64 200),dI cB bH cE,δ cG cB,aa cG (δ cN k0),aa cG (δ cO k3),aa cG (aS cP 5 cN cO),aa cG (ω cI 2 cP),aa cG (φ du 1 cI),aa cG (aX dd 34 du),aa cG (eT cV dd),dI dy cG cV,δ de dy,aa de (δ ez k0),aa de (δ eZ k3),aa de (aS fe 5 ez eZ),aa de (ω fa 1 fe),aa de (φ fI 1 fa),aa de (aX fW 34 fI),aa de (eT fJ fW),dI fR de fJ,δ fD fR,aa fD (δ fS k0),aa fD (δ fK k3),aa fD (aS iM 5 fS fK),aa fD (ω jc 4 iM),aa fD (φ je 1 jc),aa fD (au jw 1 je),aa fD (fy jx jw .i64 12),dI jy fD jx,δ im jy,aa im (δ jz k0),aa im (δ jA k3),aa im (aS jB 5 jz jA),aa im (ω jC 3 jB),aa im (φ jP 1 jC),aa im (aX kj 35 jP),aa im (eT fE kj),dI kK im fE] (Θ kK R3 ab))) R4)
def R6:AC:=bO R5
def Lv:AC:=ζ [kR k2] Ξ
def R7:AC:=ξ (ζ [aB k3 .i64 0] (aq 0 R6)) Lv
def f6:AF:=⟨[k0],[.t k2],(ζ [cA k2] (ξ (ζ [δ k4 k0,au k5 1 k4,fy k6 k5 .i64 120,δ k7 k6,ay k7 (δ k8 k0),ay k7 (au k9 1 k8),ay k7 (iI aF k9 .i64 2001),eC aH k7 aF] (Θ aH (ζ [cA k2] Ξ) ab)) R7))⟩
def R8:AC:=bO (ξ (ζ [δ k5 k4,bK k6 k5 .i64 4,δ k7 k0,au k8 0 k7,Lt k9 k6 k8] (Θ k9 ab (bJ 0))) (ξ (aq 1 (ζ [δ aN k0,δ aO k4,δ aT k4,bK aV aT .i64 4,H7 aY aN aO aV,lJ aU aY 4 1013997901] (Θ aU (aM [δ aZ k3,bK bf aZ .i64 1,δ k3 bf]) ab))) (aM [δ aF k4,bK aH aF .i64 1,δ k4 aH])))
def R9:AC:=ζ [δ bk k3,yD bp bk .i64 4,δ k2 bp] Ξ
def f34:AF:=⟨[k0],[.t k2],(ζ [cA k2] (ζ [aB k3 .i64 0] (ξ (ζ [aB k4 .i64 0] (aq 0 R8)) R9)))⟩
def Sa:AC:=ζ [cA k2] Ξ
def Sb:AC:=aM [δ k8 k3,bK k9 k8 .i64 1,δ k3 k9]
def Sc:AC:=ξ (ζ [δ k4 k3,δ k5 k0,au k6 1 k5,cm k7 k4 k6] (Θ k7 ab (bJ 0))) (ξ (aq 1 (ζ [δ aF k0,δ aH k3,aS aN 2 aF aH,ω aO 0 aN,φ aT 1 aO,au aV 0 aT,fy aY aV .i64 200,δ aU aY,aa aU (δ aZ k0),aa aU (δ bf k3),aa aU (aS bk 2 aZ bf),aa aU (ω bp 1 bk),aa aU (φ bL 1 bp),aa aU (au bz 0 bL),aa aU (fy bD bz .i64 200),dI bH aU bD,δ bU bH,aa bU (δ bX k0),aa bU (δ bY k3),aa bU (aS cj 2 bX bY),aa bU (ω cn 1 cj),aa bU (φ bV 1 cn),aa bU (aX cE 34 bV),aa bU (eT cB cE),dI cG bU cB] (Θ cG Sa ab))) Sb)
def Sd:AC:=bO Sc
def Lw:AC:=ζ [δ cN k0,au cO 1 cN,yD cP cO .i64 8,δ k2 cP] Ξ
def f35:AF:=⟨[k0],[.t k2],(ζ [cA k2] (ξ (ζ [aB k3 .i64 0] (aq 0 Sd)) Lw))⟩
def Se:AC:=bO (ξ (ζ [δ k6 k4,δ k7 k0,au k8 1 k7,cm k9 k6 k8] (Θ k9 ab (bJ 0))) (ξ (aq 1 (ζ [δ aN k0,δ aO k4,aS aT 5 aN aO,bZ aV 5 aT,rQ k5 87 .i64 0 0 0 0 0,bm 5 k5 aV] (ξ (.regd [ω aY 3 k5,μ 1 (φ aU 1 aY),μ 3 (aX aZ 19 aU),ω bf 4 k5,μ 8 (φ bk 1 bf),μ 31 (aX bp 38 bk),μ 31 (ω bL 3 k5),μ 127 (bm 1 bL aZ),μ 255 (ω bz 4 k5),μ 511 (bm 1 bz bp)]) (aM [δ bD k3,bZ bH 5 k5,B2 bU 87 .i64 0 0 0 0 0 1 0 5 bH,B1 bX 87 5 88 .i64 0 0 0 0 0 bD bU,δ k3 bX])))) (aM [δ aF k4,bK aH aF .i64 1,δ k4 aH])))
def f9:AF:=⟨[k0],[.t k2],(ζ [cR k2] (ζ [cR k3] (ξ (ζ [aB k4 .i64 0] (aq 0 Se)) (ζ [δ bY k3,δ k2 bY] Ξ))))⟩
def f19:AF:=⟨[k0],[.t k2],(ζ [cR k2] (ζ [δ k3 k0,H8 k4 64 2 32 0 0 0 0 k3,δ k2 k4] Ξ))⟩
def f38:AF:=⟨[k0],[.t k2],(ζ [cR k2] (ζ [δ k3 k0,⟨some k4,.app 3 1 8 [.i .i64 0] false (.c .ns) (.t k3),none,0⟩,δ k2 k4] Ξ))⟩
def f32:AF:=⟨[k0,k1],[.t k4,.t k5],(ζ [cA k4,aB k5 .i64 0] (ξ (ζ [δ k7 k0,aX k8 36 k7,δ k9 k1,aX aF 36 k9,wC aH 29 .i64 0 .i64 0 2 0 1 k8 1 1 aF,aX aN 41 aH,δ k6 aN] (ζ [δ aO k6,iI aT aO .i64 0] (Θ aT (ζ [δ aV k6,cA k4,δ k5 aV] Ξ) ab))) (ζ [δ aY k0,δ aU k1,δ aZ k0,au bf 1 aZ,dS bk bf .i64 1,δ bp k1,au bL 1 bp,dS bz bL .i64 1,⟨some bD,.hU (.c (.f 86 [] [])) [(.t aY),(.t aU),(.t bk),(.t bz),(.c .ns)],none,0⟩,δ k4 bD,aB k5 .i64 0] Ξ)))⟩
def Sf:AC:=ζ [δ bk k3,bm 1 k2 bk] Ξ
def Sg:AC:=ζ [Eu 1 k2 .i64 11] Ξ
def Sj:AC:=ζ [Eu 1 k2 .i64 2] Ξ
def Ig:AC:=ξ (ζ [φ im 1 k1,bZ jz 6 k4,ch jA 97 im jz,eT jB jA] (Θ jB (ζ [Eu 1 k2 .i64 9] Ξ) ab)) (ξ (.regd [φ jC 1 k1,bZ jP 6 k4,μ 3 (ch kj 98 jC jP),bZ fE 6 k4,μ 15 (aX kK 99 fE),bZ lV 6 k4,μ 63 (aX lW 100 lV),bZ lf 6 k4,μ 255 (aX oq 101 lf),⟨some ot,.bsl 29 [.i .i64 0,.i .i64 0,.i .i64 0,.i .i64 0] 4 [(0,1,(.t kj)),(1,1,(.t kK)),(2,1,(.t lW)),(3,1,(.t oq))],none,511⟩,μ 1023 (aX ou 41 ot),μ 2047 (δ k6 ou)]) (ζ [δ ov k6,iI ox ov .i64 0] (Θ ox (ζ [δ lX k6,bm 1 k2 lX] Ξ) ab)))
def Sk:AC:=ζ [ω cG 0 k4,ω cN 0 cG,φ cO 1 cN,⟨some cP,.iad (some 20) 4 (.c (.p k0 0)) (.t cO),none,0⟩,ω cI 1 cP,φ du 1 cI,δ k5 du] (ξ (ζ [δ dd k5,iH cV dd .i64 0,δ dy cV,ay dy (ω de 0 k4),ay dy (ω ez 4 de),ay dy (φ eZ 1 ez),ay dy (au fe 1 eZ),ay dy (δ fa k5),ay dy (jZ fI fe fa),eC fW dy fI,δ fJ fW,aa fJ (δ fR k5),aa fJ (cC fD fR .i64 (-2)),aa fJ (δ fS fD),ay fS (ω fK 0 k4),ay fS (ω iM 4 fK),ay fS (φ jc 1 iM),ay fS (au je 1 jc),ay fS (cC jw je .i64 0),aa fJ (eC jx fS jw),dI jy fJ jx] (Θ jy Sj ab)) Ig)
def Sl:AC:=ξ (ζ [ω bD 0 k4,ω bH 0 bD,φ bU 1 bH,jM bX bU .i64 0,δ bY bX,aa bY (ω cj 0 k4),aa bY (ω cn 0 cj),aa bY (φ bV 1 cn),aa bY (iH cE bV .i64 20),dI cB bY cE] (Θ cB Sg ab)) Sk
def Sn:AC:=ξ (ζ [φ bp 1 k1,aX bL 82 bp] (aq 0 (.mf (.t bL) [bz] (aM [⟨some k4,.new 141 [.i .i64 0,.s 0 0,.s 0 0,.ns,.ns,.i .i64 0],none,0⟩,bm 6 k4 bz]) (aq 1 Sl)))) (ζ [φ nz 1 k1,au oU 1 nz,dS qD oU .i64 1,δ k7 qD] (ξ (.regd [φ sk 1 k1,δ sn k7,μ 3 (ch lh 102 sk sn),μ 7 (iI oV lh .i64 0),μ 15 (gT so 42 oV .i64 9),φ sr 1 k1,δ sx k7,μ 96 (aS sy 5 sr sx),μ 224 (ω ri 0 sy),μ 480 (φ uj 1 ri),μ 992 (cC oy uj .i64 19),μ 2047 (gT vJ 42 oy .i64 11),φ wq 1 k1,μ 8191 (aX wu 103 wq),μ 16383 (fy wv wu .i64 60),μ 32767 (gT wx 42 wv .i64 24),⟨some wy,.bsl 29 [.i .i64 0,.i .i64 0,.i .i64 0] 3 [(0,1,(.t so)),(1,1,(.t vJ)),(2,1,(.t wx))],none,65535⟩,μ 131071 (aX wz 41 wy),μ 262143 (bm 1 k2 wz)]) Ξ))
def f36:AF:=⟨[k0],[.cell k2 false 1],(ζ [dM k1 23 k0,yH k2 29 .i64 0] (ξ (ξ (.regd [φ k8 1 k1,μ 1 (au k9 1 k8),μ 3 (cC aF k9 .i64 0),μ 7 (gT aH 42 aF .i64 10),φ aN 1 k1,μ 16 (au aO 1 aN),μ 48 (fy aT aO .i64 2000),μ 127 (gT aV 42 aT .i64 5),μ 255 (wC aY 29 .i64 0 .i64 0 2 0 1 aH 1 1 aV),μ 511 (aX aU 41 aY),μ 1023 (δ k3 aU)]) (ζ [δ aZ k3,iI bf aZ .i64 0] (Θ bf Sf ab))) Sn))⟩
def f42:AF:=⟨[k0,k1],[.t k4],(ζ [aB k4 .i64 0] (ξ (ζ [δ k5 k0] (Θ k5 (ζ [δ k6 k1,δ k4 k6] Ξ) ab)) (ζ [aB k4 .i64 0] Ξ)))⟩
def So:AC:=bO (ζ [cm k8 k7 k6] (ξ (Θ k8 ab (bJ 0)) (ξ (aq 1 (ζ [aS k9 1 k5 k7,φ aF 1 k9,δ k4 aF] (ζ [δ aH k4,iI aN aH .i64 0] (Θ aN (ζ [δ aO k4,δ k2 aO] Ξ) ab)))) (aM [bK aT k7 .i64 1,δ k7 aT]))))
def Sp:AC:=ζ [aB k2 .i64 0] Ξ
def f41:AF:=⟨[k0],[.t k2],(ζ [aB k2 .i64 0] (ξ (ζ [δ k5 k0,au k6 1 k5,aB k7 .i64 0] (aq 0 So)) Sp))⟩
def f82:AF:=⟨[k0],[.t k2],(ζ [dM k1 23 k0,Ew k2] (ζ [Ao k3 165 k1,δ k2 k3] Ξ))⟩
def Sq:AC:=bO (ζ [cm k8 k7 k6] (ξ (Θ k8 ab (bJ 0)) (ξ (aq 1 (ζ [δ k9 k7,aS aF 5 k5 k7,bZ aH 5 aF,rQ k4 87 .i64 0 0 0 0 0,δ k3 k9,bm 5 k4 aH] (ζ [δ aN k0,bZ aO 5 k4,δ aT k3,⟨some aV,.bld [.i .i64 0,.s 0 0,.s 0 0,.ns,.ns,.i .i64 0] [(0,5,(.t aO)),(5,1,(.t aT))],none,0⟩,An aY aN aV,eT aU aY] (Θ aU Ξ ab)))) (aM [bK aZ k7 .i64 1,δ k7 aZ]))))
def f165:AF:=⟨[k0,k1],[],(ζ [φ k5 1 k1,au k6 1 k5,aB k7 .i64 0] (aq 0 Sq))⟩
def f97:AF:=⟨[k0,k1],[.cell k4 false 1],(ζ [dM k2 23 k0,dM k3 141 k1,⟨some k4,.new 4 [.b false],none,0⟩] (ζ [ω k8 5 k3,φ k9 1 k8,yH k5 3 .i64 0,bm 1 k5 k9] (ξ (ζ [ω aF 0 k3,ω aH 4 aF,φ aN 1 aH,aX aO 186 aN] (aq 0 (.mf (.t aO) [aT,aV] (aM [δ k7 aV]) (aq 1 (ξ (ζ [δ aY k7,jM aU aY .i64 0,δ aZ aU,aa aZ (δ bf k7),aa aZ (φ bk 1 k5),aa aZ (dS bp bk .i64 1),aa aZ (jZ bL bf bp),dI bz aZ bL] (Θ bz (ζ [yG 1 k4] Ξ) ab)) (aM [φ bD 1 k2,δ bH k7,ch bU 102 bD bH,bm 1 k5 bU])))))) (ζ [Ib 1 k4] Ξ))))⟩
def f186:AF:=⟨[k0],[.t k2],(ζ [dM k1 85 k0,Ew k2] (ζ [Ao k3 245 k1,δ k2 k3] Ξ))⟩
def Sr:AC:=bO (ξ (ζ [δ k7 k3,iH k8 k7 .i64 0] (Θ k8 ab (bJ 0))) (ξ (aq 1 (ζ [δ aH k0,δ aN k3,φ aO 1 k1,δ aT k3,aS aV 1 aO aT,φ aY 1 aV,Ia aU aH aN aY,eT aZ aU] (Θ aZ Ξ ab))) (aM [δ k9 k3,dS aF k9 .i64 1,δ k3 aF])))
def f245:AF:=⟨[k0,k1],[],(ζ [φ k4 1 k1,au k5 1 k4,dS k6 k5 .i64 1,δ k3 k6] (aq 0 Sr))⟩
def Ss:AC:=bO (ξ (ζ [δ k5 k0,δ k6 k1,aS k7 5 k5 k6,ω k8 4 k7,φ k9 1 k8,au aF 1 k9,fy aH aF .i64 0] (Θ aH ab (bJ 0))) (aq 1 (aM [δ aN k0,δ aO k1,aS aT 5 aN aO,ω aV 4 aT,φ aY 1 aV,B9 aU 1 aY .i64 0,φ aZ 1 aU,δ k1 aZ])))
def Su:AC:=ζ [δ bf k1,δ k4 bf] Ξ
def f102:AF:=⟨[k0,k1],[.t k4],(ζ [aB k4 .i64 0] (ξ (aq 0 Ss) Su))⟩
def Sv:AC:=bO (ζ [cm aO aN aH] (ξ (Θ aO ab (bJ 0)) (ξ (aq 1 (ζ [δ aT aN,aS aV 1 aF aN,φ aY 1 aV,δ k5 aT,δ k6 aY] (ζ [δ aU k0,δ aZ k6,aS bf 5 aU aZ,ω bk 0 bf,φ bp 1 bk,cC bL bp .i64 19,δ k7 bL] (ζ [ω bz 0 k3,ω bD 0 bz,φ bH 1 bD,aX bU 56 bH,δ bX bU,ay bX (δ bY k7),ay bX (δ cj k5),ay bX (ω cn 0 k3),ay bX (ω bV 4 cn),ay bX (φ cE 1 bV),ay bX (au cB 1 cE),ay bX (dS cG cB .i64 1),ay bX (uY cN cj cG),ay bX (R2 cO bY cN),eC cP bX cO,δ cI cP,aa cI (ω du 0 k3),aa cI (ω dd 0 du),aa cI (φ cV 1 dd),aa cI (aX dy 56 cV),aa cI (eT de dy),aa cI (δ ez de),ay ez (δ eZ k7),aa cI (eC fe ez eZ),dI fa cI fe] (Θ fa (ζ [aB k4 .i64 11] Ξ) ab))))) (aM [bK fI aN .i64 1,δ aN fI]))))
def Sw:AC:=ζ [aB k4 .i64 0] Ξ
def f98:AF:=⟨[k0,k1],[.t k4],(ζ [dM k3 141 k1,aB k4 .i64 0] (ξ (ζ [ω k8 0 k3,ω k9 4 k8,φ aF 1 k9,au aH 1 aF,aB aN .i64 0] (aq 0 Sv)) Sw))⟩
def f56:AF:=⟨[k0],[.t k2],(ζ [cA k2] (ζ [δ k3 k0,cC k4 k3 .i64 17,δ k5 k4,aa k5 (δ k6 k0),aa k5 (cC k7 k6 .i64 18),dI k8 k5 k7,δ k2 k8] Ξ))⟩
def f99:AF:=⟨[k0],[.t k2],(ζ [dM k1 141 k0,aB k2 .i64 0] (ξ (ζ [ω k3 0 k1,ω k4 0 k3,φ k5 1 k4] (aq 0 (ζ [cC k7 k5 .i64 2,δ k6 k7] (Θ k6 (ζ [ω k8 0 k1,ω k9 2 k8,φ aF 1 k9,aX aH 187 aF,iI aN aH .i64 0,δ aO aN,ay aO (ω aT 0 k1),ay aO (ω aV 2 aT),ay aO (φ aY 1 aV),ay aO (aX aU 188 aY),ay aO (iI aZ aU .i64 0),eC bf aO aZ,gT bk 42 bf .i64 6,δ k2 bk] Ξ) (ζ [cC bL k5 .i64 3,δ bp bL] (Θ bp (ζ [ω bz 0 k1,ω bD 2 bz,φ bH 1 bD,aX bU 44 bH,eT bX bU,gT bY 42 bX .i64 6,δ k2 bY] Ξ) (ζ [cC cn k5 .i64 4,δ cj cn] (Θ cj (ζ [ω bV 0 k1,ω cE 2 bV,φ cB 1 cE,lJ cG cB 0 0,gT cN 42 cG .i64 6,δ k2 cN] Ξ) ab)))))))) (ζ [ω cO 0 k1,ω cP 2 cO,φ cI 1 cP,wD du cI 0 0,gT dd 42 du .i64 6,δ k2 dd] Ξ)))⟩
def f187:AF:=⟨[k0],[.t k2],(ζ [aB k2 .i64 0] (ζ [δ k6 k0,Ep k7 246 k6 1 45,δ k5 k7,eb k8 k5 0,eb k9 k5 1,δ k3 k8,δ k4 k9] (ξ (ζ [δ aF k3,aX aH 247 aF,eT aN aH,δ aO aN,aa aO (δ aT k3),aa aO (uZ aV aT .i64 0),aa aO (cC aY aV .u8 48),aa aO (δ aU aY),ay aU (δ aZ k4),ay aU (δ bf aZ),aa bf (δ bk k3),aa bf (au bp 0 bk),aa bf (fy bL bp .i64 1),ay aU (dI bz bf bL),aa aO (eC bD aU bz),dI bH aO bD] (Θ bH (ζ [aB k2 .i64 1] Ξ) ab)) (ζ [δ bU k3,au bX 0 bU,fy bY bX .i64 120,gT cj 248 bY .i64 4,δ k2 cj] Ξ))))⟩
def f246:AF:=⟨[k0,k1],[.t k4,.t k5],(ζ [oZ k4 0 0,cA k5] (ζ [δ k6 k0,δ k7 k1,ch k8 294 k6 k7,eb k9 k8 0,eb aF k8 1,δ k4 k9,δ k5 aF] Ξ))⟩
def f294:AF:=⟨[k0,k1],[.t k4,.t k5],(ζ [oZ k4 0 0,cA k5] (ξ (ζ [δ k6 k0,δ k7 k1,ch k8 325 k6 k7,eT k9 k8] (Θ k9 (ζ [δ aF k0,δ k4 aF,cA k5] Ξ) ab)) (ζ [δ aH k0,δ aN k1,au aO 0 aN,yE aT aH aO,δ k4 aT,kR k5] Ξ)))⟩
def f325:AF:=⟨[k0,k1],[.t k4],(ζ [cA k4] (ζ [δ k5 k0,au k6 0 k5,δ k7 k1,au k8 0 k7,B7 k9 k6 k8,δ aF k9,ay aF (δ aH k0),ay aF (δ aN k1),ay aF (au aO 0 aN),ay aF (Et aT aH aO),ay aF (δ aV k1),ay aF (tz aY aT aV),eC aU aF aY,δ k4 aU] Ξ))⟩
def Sx:AC:=bO (ζ [Ie k7 k6,eb k8 k7 0] (ξ (Θ k8 ab (bJ 0)) (aq 1 (ζ [eb k9 k7 2,δ k4 k9] (ζ [δ aF k4,jM aH aF .i32 48,δ aN aH,aa aN (δ aO k4),aa aN (fy aT aO .i32 57),dI aV aN aT] (Θ aV (ζ [cA k2] Ξ) ab))))))
def f247:AF:=⟨[k0],[.t k2],(ζ [cA k2] (ξ (ζ [δ k5 k0,Ic k6 k5] (aq 0 Sx)) (ζ [δ aY k0,wD aU aY 0 0,δ k2 aU] Ξ)))⟩
def f248:AF:=⟨[k0,k1],[.t k4],(ζ [aB k4 .i64 0] (ξ (ζ [δ k5 k0] (Θ k5 (ζ [δ k6 k1,δ k4 k6] Ξ) ab)) (ζ [aB k4 .i64 0] Ξ)))⟩
def f188:AF:=⟨[k0],[.t k2],(ζ [aB k2 .i64 0] (ζ [δ k9 k0,Ep aF 221 k9 1 47,δ k8 aF,eb aH k8 0,eb aN k8 1,eb aO k8 2,δ k3 aH,δ k4 aN,δ k5 aO] (ξ (ζ [δ aT k5,eT aV aT,δ aY aV,aa aY (δ aU k4),aa aY (Ep aZ 249 aU 1 47),dI bf aY aZ] (Θ bf (ζ [aB k2 .i64 1] Ξ) ab)) (ξ (ζ [δ bk k3,aX bp 187 bk,δ bL k4,aX bz 187 bL,wC bD 29 .i64 0 .i64 0 2 0 1 bp 1 1 bz,aX bH 250 bD,δ k6 bH] (ζ [δ bU k6,iI bX bU .i64 0] (Θ bX (ζ [δ bY k6,δ k2 bY] Ξ) ab))) (ζ [δ cj k3,aX cn 251 cj,δ bV k4,aX cE 251 bV,⟨some cB,.bld [.ns,.b false,.ns,.b false] [(0,2,(.t cn)),(2,2,(.t cE))],none,0⟩,⟨some k7,.new 302 [.ns,.b false,.ns,.b false],none,0⟩,bm 4 k7 cB] (ζ [ω cG 2 k7,ω cN 1 cG,φ cO 1 cN,δ cP cO,aa cP (ω cI 2 k7),aa cP (ω du 0 cI),aa cP (bZ dd 1 du),aa cP (aX cV 252 dd),dI dy cP cV,δ de dy,aa de (ω ez 0 k7),aa de (ω eZ 0 ez),aa de (bZ fe 1 eZ),aa de (ω fa 2 k7),aa de (ω fI 0 fa),aa de (bZ fW 1 fI),aa de (ch fJ 253 fe fW),aa de (aX fR 254 fJ),aa de (eT fD fR),dI fS de fD,gT fK 248 fS .i64 1,δ k2 fK] Ξ))))))⟩
def f221:AF:=⟨[k0,k1],[.t k4,.t k5,.t k6],(ζ [oZ k4 0 0,oZ k5 0 0,cA k6] (ζ [δ k7 k0,δ k8 k1,ch k9 277 k7 k8,eb aF k9 0,eb aH k9 1,eb aN k9 2,δ k4 aF,δ k5 aH,δ k6 aN] Ξ))⟩
def f277:AF:=⟨[k0,k1],[.t k4,.t k5,.t k6],(ζ [oZ k4 0 0,oZ k5 0 0,cA k6] (ξ (ζ [δ k8 k0,δ k9 k1,ch aF 312 k8 k9,δ k7 aF] (ζ [δ aH k7,iH aN aH .i64 0] (Θ aN (ξ (.regd [δ aO k0,δ aT k7,μ 3 (Et aV aO aT),δ aY k0,δ aU k7,δ aZ k1,μ 32 (au bf 0 aZ),μ 112 (gy bk aU bf),μ 248 (yE bp aY bk),μ 7 (δ k4 aV),μ 1023 (δ k5 bp),μ 2047 (kR k6)]) Ξ) ab))) (ζ [δ bL k0,δ k4 bL,oZ k5 0 0,cA k6] Ξ)))⟩
def f312:AF:=⟨[k0,k1],[.t k4],(ζ [aB k4 .i64 0] (ζ [δ aT k1,au aV 0 aT,δ k5 aV] (ξ (aq 0 (ζ [δ aU k5,cC aZ aU .i64 0,δ bf aZ,aa bf (δ bk k1),aa bf (δ bp k0),aa bf (tz bL bk bp),dI bz bf bL,δ aY bz] (Θ aY (ζ [aB k4 .i64 0] Ξ) (ζ [δ bH k5,cC bU bH .i64 1,δ bD bU] (Θ bD (ζ [δ bX k0,δ bY k1,uZ cj bY .i64 0,ch cn 209 bX cj,δ k4 cn] Ξ) (ζ [δ cE k5,δ cB k0,au cG 0 cB,B7 cN cE cG,δ bV cN] (Θ bV (ζ [aB k4 .i64 (-1)] Ξ) (ζ [δ cP k5,⟨some cI,.ld false 1 (.c (.p k3 0)),none,0⟩,Lt du cP cI,δ dd du,ay dd (δ cV k0),ay dd (au dy 0 cV),ay dd (yD de dy .i64 64),eC ez dd de,δ cO ez] (Θ cO (ζ [δ eZ k0,δ fe k1,ch fa 307 eZ fe,δ k4 fa] Ξ) ab))))))))) (ζ [δ fI k1,uZ fW fI .i64 0,δ k6 fW] (ζ [δ fJ k1,uZ fR fJ .i64 1,δ k7 fR] (ζ [aB k8 .i64 0] (ζ [δ fD k0,au fS 0 fD,δ fK k5,kz iM fS fK,bK jc iM .i64 1,δ k9 jc] (ζ [aB aF .i64 0] (ξ (aq 1 (bO (ξ (ζ [δ je k8,δ jw k9,cm jx je jw] (Θ jx ab (bJ 1))) (aq 2 (ξ (ζ [δ jy k0,δ im k8,jN jz jy im,δ jA k6,jZ jB jz jA] (Θ jB (ζ [δ jC k0,δ jP k8,bK kj jP .i64 1,δ fE k9,H7 kK jC kj fE,δ lV k6,ch lW 209 kK lV,δ aH lW] (ξ (ζ [δ lf aH,jM oq lf .i64 0] (Θ oq (ζ [aB k4 .i64 (-1)] Ξ) ab)) (aM [δ ot k8,δ ou aH,bK ov ou .i64 1,gy ox ot ov,δ k8 ox]))) ab)) (ξ (ζ [δ lX k0,δ nz k8,bK oU nz .i64 1,jN qD lX oU,δ sk k7,uY sn qD sk,δ lh sn,ay lh (δ oV k0),ay lh (δ so k8),ay lh (δ sr k8),ay lh (δ sx k5),ay lh (gy sy sr sx),ay lh (H7 ri oV so sy),ay lh (δ uj k1),ay lh (tz oy ri uj),eC vJ lh oy] (Θ vJ (ζ [δ wq k8,δ k4 wq] Ξ) ab)) (ζ [δ wu k8,bK wv wu .i64 1,δ k8 wv] (ζ [δ wx aF,bK wy wx .i64 1,δ aF wy] (ζ [δ wz k5,⟨some tn,.ld false 1 (.c (.p k3 0)),none,0⟩,Lt uM wz tn,δ pP uM,ay pP (δ uN aF),ay pP (δ uO k8),ay pP (aX uP 306 uO),ay pP (Am uQ uN uP),eC uR pP uQ] (Θ uR (ζ [δ uS k0,δ uT k8,yE uU uS uT,δ xY k1,ch lH 307 uU xY,δ aN lH] (ξ (ζ [δ xZ aN,iH ya xZ .i64 0] (Θ ya (ζ [δ yb aN,δ yc k8,gy yd yb yc,δ k4 yd] Ξ) ab)) (ζ [aB k4 .i64 (-1)] Ξ))) (ζ [δ ye k5,⟨some yf,.ld false 1 (.c (.p k3 0)),none,0⟩,Am yg ye yf,δ qF yg,ay qF (δ tq aF),ay qF (δ yh k8),ay qF (Lr yi yh .u64 4),ay qF (Lq yj .i64 4 yi),ay qF (B7 yl tq yj),eC ym qF yl,δ tv ym,ay tv (δ yn k8),ay tv (δ yo k9),ay tv (cm yp yn yo),eC pQ tv yp] (Θ pQ (ζ [δ yq k0,δ yr k8,yE yt yq yr,δ yu k1,ch yw 339 yt yu,δ aO yw] (ξ (ζ [δ yx aO,jM yz yx .i64 0] (Θ yz (ζ [aB k4 .i64 (-1)] Ξ) ab)) (ζ [δ yA k8,δ BR aO,gy BS yA BR,δ k4 BS] Ξ))) ab)))))))))))) (ζ [aB k4 .i64 (-1)] Ξ))))))))))⟩
def f209:AF:=⟨[k0,k1],[.t k4],(ζ [aB k4 .i64 0] (ζ [δ k5 k0,δ k6 k1,ch k7 267 k5 k6,δ k4 k7] Ξ))⟩
def f306:AF:=⟨[k0],[.t k2],(ζ [aB k2 .i64 0] (ζ [δ k3 k0,bK k4 k3 .i64 16,Al k5 k4 .i64 8,δ k2 k5] Ξ))⟩
def f339:AF:=⟨[k0,k1],[.t k4],(ζ [aB k4 .i64 0] (ζ [δ aN k1,aX aO 355 aN,δ aH aO,eb aT aH 0,eb aV aH 1,δ k5 aT,δ k6 aV] (ζ [δ aY k1,au aU 0 aY,δ k7 aU] (ζ [aB k8 .u32 0] (ξ (ζ [aB k9 .i64 0] (aq 0 (bO (ξ (ζ [δ aZ k9,δ bf k7,cm bk aZ bf] (Θ bk ab (bJ 0))) (ξ (aq 1 (aM [δ bz k8,B4 bD bz .u32 16777619,δ bH k0,δ bU k9,jN bX bH bU,hK bY .u32 bX,gy cj bD bY,δ k8 cj])) (aM [δ bp k9,bK bL bp .i64 1,δ k9 bL])))))) (ξ (ζ [δ cn k8,δ bV k5,uY cE cn bV,δ cB cE,ay cB (δ cG k0),ay cB (δ cN k7),ay cB (Et cO cG cN),ay cB (δ cP k1),ay cB (tz cI cO cP),eC du cB cI] (Θ du (ζ [aB k4 .i64 0] Ξ) ab)) (ξ (ζ [δ dd k7,δ aF dd] (aq 2 (bO (ξ (ζ [δ cV aF,δ dy k0,au de 0 dy,cm ez cV de] (Θ ez ab (bJ 2))) (aq 3 (ζ [δ eZ k8,B4 fe eZ .u32 16777619,δ k8 fe] (ζ [δ fa k8,δ fI k0,δ fW aF,jN fJ fI fW,hK fR .u32 fJ,gy fD fa fR,δ k8 fD] (ζ [δ fS k8,δ fK k6,δ iM k0,δ jc aF,δ je k7,kz jw jc je,jN jx iM jw,hK jy .u32 jx,B6 im fK jy,kz jz fS im,δ k8 jz] (ζ [δ jA aF,bK jB jA .i64 1,δ aF jB] (ζ [δ jC k8,δ jP k5,uY kj jC jP,δ fE kj,ay fE (δ kK k0),ay fE (δ lV aF),ay fE (δ lW k7),ay fE (kz lf lV lW),ay fE (δ oq aF),ay fE (H7 ot kK lf oq),ay fE (δ ou k1),ay fE (tz ov ot ou),eC ox fE ov] (Θ ox (ζ [δ lX aF,δ nz k7,kz oU lX nz,δ k4 oU] Ξ) ab))))))))))) (ζ [aB k4 .i64 (-1)] Ξ))))))))⟩
def f355:AF:=⟨[k0],[.t k2,.t k3],(ζ [aB k2 .u32 0,aB k3 .u32 0] (ζ [aB k4 .u32 0] (ξ (ζ [aB k5 .i64 0] (aq 0 (bO (ξ (ζ [δ k9 k5,δ aF k0,au aH 0 aF,cm aN k9 aH] (Θ aN ab (bJ 0))) (ξ (aq 1 (aM [δ aV k4,B4 aY aV .u32 16777619,δ aU k0,δ aZ k5,jN bf aU aZ,hK bk .u32 bf,gy bp aY bk,δ k4 bp])) (aM [δ aO k5,bK aT aO .i64 1,δ k5 aT])))))) (ζ [aB k6 .u32 1,aB k7 .u32 16777619] (ξ (ζ [δ bL k0,au bz 0 bL,δ k8 bz] (aq 2 (bO (ξ (ζ [δ bD k8,fy bH bD .i64 0] (Θ bH ab (bJ 2))) (ξ (aq 3 (ξ (ζ [δ bY k8,⟨some cj,.bin .and (.one .bool) (.t bY) (.c (.i .i64 1)),none,0⟩,iI cn cj .i64 0] (Θ cn (aM [δ bV k6,δ cE k7,B6 cB bV cE,δ k6 cB]) ab)) (aM [δ cG k7,δ cN k7,B6 cO cG cN,δ k7 cO]))) (aM [δ bU k8,Lr bX bU .u64 1,δ k8 bX])))))) (ζ [δ cP k4,δ cI k6,δ k2 cP,δ k3 cI] Ξ))))))⟩
def f249:AF:=⟨[k0,k1],[.t k4],(ζ [cA k4] (ζ [δ k5 k0,δ k6 k1,ch k7 295 k5 k6,iH k8 k7 .i64 0,δ k4 k8] Ξ))⟩
def f295:AF:=⟨[k0,k1],[.t k4],(ζ [aB k4 .i64 0] (ζ [δ k5 k0,δ k6 k1,ch k7 312 k5 k6,δ k4 k7] Ξ))⟩
def f250:AF:=⟨[k0],[.t k2],(ζ [aB k2 .i64 0] (ξ (ζ [δ k5 k0,au k6 1 k5,aB k7 .i64 0] (aq 0 (bO (ζ [cm k8 k7 k6] (ξ (Θ k8 ab (bJ 0)) (ξ (aq 1 (ζ [aS k9 1 k5 k7,φ aF 1 k9,δ k4 aF] (ζ [δ aH k4,iI aN aH .i64 0] (Θ aN (ζ [δ aO k4,δ k2 aO] Ξ) ab)))) (aM [bK aT k7 .i64 1,δ k7 aT]))))))) (ζ [aB k2 .i64 0] Ξ)))⟩
def Sy:AC:=bO (ζ [Ie bk bf,eb bp bk 0] (ξ (Θ bp ab (bJ 2)) (aq 3 (ζ [eb bL bk 2,δ k9 bL] (aM [δ bz k7,⟨some bD,.bin .mul (.one .bool) (.c (.i .u32 10)) (.t bz),none,0⟩,δ bH k9,dS bU bH .i32 48,hK bX .u32 bU,gy bY bD bX,δ k7 bY])))))
def f251:AF:=⟨[k0],[.cell k2 true 2],(ζ [⟨some k2,.new 299 [.ns,.b false],none,0⟩] (ζ [δ aH k0,Ep aN 246 aH 1 45,δ aF aN,eb aO aF 0,eb aT aF 1,δ k3 aO,δ k4 aT] (ζ [kS k5 295] (ξ (ζ [δ aV k3,aX aY 296 aV] (aq 0 (.mf (.t aY) [aU] (aM [δ k6 aU]) (aq 1 (ζ [aB k7 .u32 0] (ξ (ζ [δ aZ k6,Ic bf aZ] (aq 2 Sy)) (aM [φ cj 1 k5,δ cn k7,mW bV 342 .u32 0 1 0 1 cn,oY cE 342 1 4 .u32 0 cj bV,bm 1 k5 cE]))))))) (ζ [φ cB 1 k5,aX cG 298 cB,wH cN 0 1 cG,δ cO k4,ch cP 297 cN cO,bm 2 k2 cP] Ξ)))))⟩
def f296:AF:=⟨[k0],[.t k2],(ζ [dM k1 9 k0,Ew k2] (ζ [Ao k3 326 k1,δ k2 k3] Ξ))⟩
def Sz:AC:=bO (ξ (ζ [φ k4 1 k1,au k5 0 k4,fy k6 k5 .i64 0] (Θ k6 ab (bJ 0))) (aq 1 (ζ [φ k7 1 k1,au k8 0 k7,dS k9 k8 .i64 9,⟨some aF,.mm true [(.c (.i .i64 0)),(.t k9)],none,0⟩,δ k3 aF] (ξ (ζ [δ aH k0,φ aN 1 k1,δ aO k3,yE aT aN aO,An aV aH aT,eT aY aV] (Θ aY Ξ ab)) (aM [φ aU 1 k1,δ aZ k3,Et bf aU aZ,bm 1 k1 bf])))))
def f326:AF:=⟨[k0,k1],[],(aq 0 Sz)⟩
def SA:AC:=bO (ξ (ζ [δ k6 k4,δ k7 k0,An k8 k6 k7] (Θ k8 ab (bJ 0))) (aq 1 (aM [δ k9 k0,δ aF k0,au aH 1 aF,dS aN aH .i64 1,B5 aO 1 k9 aN,δ k0 aO])))
def f298:AF:=⟨[k0],[.t k2],(ζ [cR k2] (ζ [yH k3 342 .u32 0] (ζ [Ao k5 327 k3,δ k4 k5] (ξ (aq 0 SA) (ζ [δ aT k0,aX aV 328 aT,δ k2 aV] Ξ)))))⟩
def f327:AF:=⟨[k0,k1],[.t k3],(ζ [cA k3] (ξ (.regd [δ k4 k0,μ 1 (au k5 1 k4),μ 3 (fy k6 k5 .i64 0),μ 7 (δ k7 k6),μ 15 (ay k7 (δ k8 k0)),μ 15 (ay k7 (δ k9 k0)),μ 47 (ay k7 (au aF 1 k9)),μ 111 (ay k7 (dS aH aF .i64 1)),μ 255 (ay k7 (aS aN 1 k8 aH)),μ 511 (ay k7 (φ aO 1 aN)),μ 15 (ay k7 (φ aT 1 k1)),μ 2047 (ay k7 (uY aV aO aT)),μ 4095 (eC aY k7 aV),μ 8191 (δ k3 aY)]) Ξ))⟩
def f328:AF:=⟨[k0],[.t k2],(ζ [cR k2] (ζ [δ k3 k0,δ k4 k0,au k5 1 k4,δ k6 k0,au k7 1 k6,⟨some k8,.sli (.sl 1) (.t k3) none (some (.t k5)) (some (.t k7)),none,0⟩,δ k2 k8] Ξ))⟩
def f297:AF:=⟨[k0,k1],[.cell k4 true 2],(ζ [dM k2 297 k0,⟨some k4,.new 299 [.ns,.b false],none,0⟩] (ξ (.regd [bZ k5 1 k2,δ k6 k1,μ 2 (δ k7 k6),μ 6 (ay k7 (bZ k8 1 k2)),μ 14 (ay k7 (aX k9 252 k8)),μ 30 (ay k7 (eT aF k9)),μ 62 (eC aH k7 aF),⟨some aN,.bld [.ns,.b false] [(0,1,(.t k5)),(1,1,(.t aH))],none,127⟩,μ 255 (bm 2 k4 aN)]) Ξ))⟩
def f252:AF:=⟨[k0],[.t k2],(ζ [dM k1 297 k0,cA k2] (ζ [ω k3 0 k1,φ k4 1 k3,au k5 1 k4,cC k6 k5 .i64 0,δ k2 k6] Ξ))⟩
def SB:AC:=bO (ξ (ζ [bZ k7 1 k3,aX k8 252 k7,eT k9 k8] (Θ k9 ab (bJ 0))) (aq 1 (ζ [bZ aH 1 k2,bZ aN 1 k3,ch aO 299 aH aN,δ aF aO,eb aT aF 0,eb aV aF 1,kS k5 297,kS k6 297,bm 1 k5 aT,bm 1 k6 aV] (.regd [bZ aY 1 k3,bZ aU 1 k6,μ 1 (bm 1 k2 aY),μ 7 (bm 1 k3 aU)]))))
def f253:AF:=⟨[k0,k1],[.cell k4 true 1],(ζ [dM k2 297 k0,dM k3 297 k1,kS k4 297] (ξ (aq 0 SB) (ζ [bZ aZ 1 k2,bm 1 k4 aZ] Ξ)))⟩
def SC:AC:=aq 3 (ζ [δ yj aU,dS yl yj .u64 1,δ aU yl] (ζ [δ ym aZ,φ tv 1 aF,gy yn ym tv,δ aZ yn] (ζ [δ yo aZ,iH yp yo .u64 1000000000] (Θ yp (bJ 2) ab))))
def SD:AC:=ξ (ξ (.regd [δ uU aU,μ 1 (iH xY uU .u64 1000000000),μ 3 (δ lH xY),μ 7 (aa lH (δ xZ aU)),μ 7 (aa lH (φ ya 1 aH)),μ 31 (aa lH (B6 yb xZ ya)),μ 7 (aa lH (δ yc aZ)),μ 71 (aa lH (B4 yd yc .u64 1000000000)),μ 7 (aa lH (bZ ye 1 aO)),μ 7 (aa lH (φ yf 1 k9)),μ 519 (aa lH (dS yg yf .i64 2)),μ 1799 (aa lH (ch qF 331 ye yg)),μ 4039 (aa lH (gy tq yd qF)),μ 8191 (aa lH (Am yh yb tq)),μ 16383 (dI yi lH yh)]) (Θ yi ab (bJ 2))) SC
def Lx:AC:=bO SD
def SE:AC:=ζ [bZ Hu 1 aO,bZ Hv 1 bf,ch Hw 320 Hu Hv,bm 1 aO Hw] (ζ [δ Hy aT,φ Hz 1 aN,au HA 1 Hz,cm HB Hy HA] (Θ HB (aM [φ HC 1 aN,δ HD aT,δ HE aU,hK HF .u32 HE,aS HG 1 HC HD,bm 1 HG HF]) ab))
def SF:AC:=aq 1 (.scope (ζ [δ sx aV,mW sy 342 .u32 0 1 0 1 sx,ω ri 0 aO,φ uj 1 ri,oY oy 342 1 4 .u32 0 sy uj,aX vJ 298 oy,wH wq 0 1 vJ,bm 1 aO wq] (ξ (.regd [bZ wu 1 aO,φ wv 1 k9,μ 3 (ch wx 331 wu wv),μ 7 (B4 wy wx .u64 1000000000),bZ wz 1 aO,φ tn 1 k9,μ 32 (dS uM tn .i64 1),μ 119 (ch pP 331 wz uM),μ 255 (gy uN wy pP),μ 511 (δ aY uN)]) (ξ (.regd [δ uO aY,φ uP 1 aF,μ 3 (R0 uQ uO uP),δ uR aY,φ uS 1 aF,μ 24 (R1 uT uR uS),μ 7 (δ aU uQ),μ 127 (δ aZ uT)]) (ξ ab (ξ (aq 2 Lx) (ξ (.regd [bZ pQ 1 k8,δ yq aU,μ 2 (hK yr .u32 yq),μ 6 (mW yt 342 .u32 0 1 0 1 yr),μ 14 (aX yu 298 yt),μ 30 (wH yw 0 1 yu),μ 63 (ch yx 321 pQ yw),kS bf 297,μ 255 (bm 1 bf yx)]) (ξ (ζ [bZ yz 1 bf,bZ yA 1 aO,ch BR 319 yz yA,fy BS BR .i64 0] (Θ BS (ζ [δ Hm aU,dS Ho Hm .u64 1,δ aU Ho] (aM [bZ Hq 1 bf,bZ Hr 1 k8,ch Ht 320 Hq Hr,bm 1 bf Ht])) ab)) SE))))))))
def SG:AC:=ξ (.regd [bZ HH 1 aO,ω HI 0 k6,μ 2 (φ BT 1 HI),μ 6 (B9 HJ 1 BT .i64 0),μ 14 (φ HK 1 HJ),μ 31 (ch HL 329 HH HK),μ 63 (δ Ef HL),μ 127 (eb HM Ef 0),μ 127 (eb HN Ef 1),kS bk 297,kS bp 297,μ 1791 (bm 1 bk HM),μ 4095 (bm 1 bp HN)]) (ξ (.regd [φ HO 1 aN,μ 1 (aX HP 298 HO),μ 3 (wH HQ 0 1 HP),bZ HR 1 bk,μ 7 (bm 1 k4 HQ),μ 31 (bm 1 k5 HR)]) Ξ)
def SH:AC:=ζ [ω ox 0 k2,φ lX 1 ox,au nz 1 lX,bK oU nz .i64 1,wF qD 342 1 4 .u32 0 oU oU,kS aN 295,bm 1 aN qD] (ζ [⟨some sk,.bld [.ns] [],none,0⟩,kS aO 297,bm 1 aO sk] (ξ (ζ [ω sn 0 k7,φ lh 1 sn,aX oV 330 lh] (aq 0 (.mf (.t oV) [so,sr] (ζ [δ aT so] (aM [δ aV sr])) SF))) SG))
def SI:AC:=ζ [ω dd 0 k3,φ cV 1 dd,ω dy 0 k3,φ de 1 dy,au ez 1 de,dS eZ ez .i64 1,aS fe 1 cV eZ,φ fa 1 fe,hK fI .u64 fa,bK fW fI .u64 1,⟨some fJ,.bin .quo (.one .bool) (.c (.i .u64 1000000000)) (.t fW),none,0⟩,hK fR .u32 fJ,mW fD 342 .u32 0 1 0 1 fR,wH fS 0 1 fD,kS k6 297,bm 1 k6 fS] (ξ (.regd [bZ fK 1 k2,bZ iM 1 k6,μ 3 (ch jc 321 fK iM),bZ je 1 k3,bZ jw 1 k6,μ 31 (ch jx 321 je jw),kS k7 297,kS k8 297,μ 255 (bm 1 k7 jc),μ 511 (bm 1 k8 jx)]) (ζ [ω jy 0 k8,φ im 1 jy,au jz 1 im,yH k9 3 .i64 0,bm 1 k9 jz] (ξ (.regd [ω jA 0 k8,μ 1 (φ jB 1 jA),φ jC 1 k9,μ 4 (dS jP jC .i64 1),μ 15 (aS kj 1 jB jP),μ 31 (φ fE 1 kj),μ 63 (hK kK .u64 fE),ω lV 0 k8,μ 128 (φ lW 1 lV),φ lf 1 k9,μ 512 (dS oq lf .i64 2),μ 1920 (aS ot 1 lW oq),μ 3968 (φ ou 1 ot),μ 8064 (hK ov .u64 ou),yH aF 349 .u64 0,yH aH 349 .u64 0,μ 49279 (bm 1 aF kK),μ 131071 (bm 1 aH ov)]) SH)))
def f299:AF:=⟨[k0,k1],[.cell k4 true 1,.cell k5 true 1],(ζ [dM k2 297 k0,dM k3 297 k1,kS k4 297,kS k5 297] (ξ (ζ [bZ bL 1 k2,bZ bz 1 k3,ch bD 319 bL bz,jM bH bD .i64 0] (Θ bH (ξ (.regd [⟨some bU,.bld [.ns] [],none,0⟩,bZ bX 1 k2,μ 1 (bm 1 k4 bU),μ 7 (bm 1 k5 bX)]) Ξ) ab)) (ξ (ζ [ω bY 0 k3,φ cj 1 bY,au cn 1 cj,cC bV cn .i64 1] (Θ bV (ξ (.regd [bZ cE 1 k2,ω cB 0 k3,μ 2 (φ cG 1 cB),μ 6 (B9 cN 1 cG .i64 0),μ 14 (φ cO 1 cN),μ 31 (ch cP 329 cE cO),μ 63 (eb cI cP 0),μ 63 (eb du cP 1),μ 255 (bm 1 k4 cI),μ 511 (bm 1 k5 du)]) Ξ) ab)) SI)))⟩
def f319:AF:=⟨[k0,k1],[.cell k4 false 1],(ζ [dM k2 297 k0,dM k3 297 k1,yH k4 3 .i64 0] (ξ (ζ [ω k7 0 k2,φ k8 1 k7,au k9 1 k8,ω aF 0 k3,φ aH 1 aF,au aN 1 aH,jZ aO k9 aN] (Θ aO (ζ [ω aT 0 k2,φ aV 1 aT,au aY 1 aV,ω aU 0 k3,φ aZ 1 aU,au bf 1 aZ,ch bk 347 aY bf,bm 1 k4 bk] Ξ) ab)) (ξ (ζ [ω bp 0 k2,φ bL 1 bp,aX bz 330 bL] (aq 0 (.mf (.t bz) [bD,bH] (ζ [δ k5 bD] (aM [δ k6 bH])) (aq 1 (ζ [δ bU k6,ω bX 0 k3,φ bY 1 bX,δ cj k5,aS cn 1 bY cj,φ bV 1 cn,jZ cE bU bV] (Θ cE (ζ [δ cB k6,hK cG .i64 cB,ω cN 0 k3,φ cO 1 cN,δ cP k5,aS cI 1 cO cP,φ du 1 cI,hK dd .i64 du,ch cV 347 cG dd,bm 1 k4 cV] Ξ) ab)))))) (ζ [Eu 1 k4 .i64 0] Ξ))))⟩
def f347:AF:=⟨[k0,k1],[.t k4],(ζ [aB k4 .i64 0] (ξ (ζ [δ k5 k0,δ k6 k1,cm k7 k5 k6] (Θ k7 (ζ [aB k4 .i64 (-1)] Ξ) ab)) (ξ (ζ [δ k8 k0,δ k9 k1,Am aF k8 k9] (Θ aF (ζ [aB k4 .i64 1] Ξ) ab)) (ζ [aB k4 .i64 0] Ξ))))⟩
def f330:AF:=⟨[k0],[.t k2],(ζ [dM k1 295 k0,Ew k2] (ζ [Ao k3 349 k1,δ k2 k3] Ξ))⟩
def f349:AF:=⟨[k0,k1],[],(ζ [φ k4 1 k1,au k5 1 k4,dS k6 k5 .i64 1,δ k3 k6] (aq 0 (bO (ξ (ζ [δ k7 k3,iH k8 k7 .i64 0] (Θ k8 ab (bJ 0))) (ξ (aq 1 (ζ [δ aH k0,δ aN k3,φ aO 1 k1,δ aT k3,aS aV 1 aO aT,φ aY 1 aV,Ia aU aH aN aY,eT aZ aU] (Θ aZ Ξ ab))) (aM [δ k9 k3,dS aF k9 .i64 1,δ k3 aF]))))))⟩
def f329:AF:=⟨[k0,k1],[.cell k4 true 1,.cell k5 true 1],(ζ [dM k2 297 k0,dM k3 342 k1,kS k4 297,kS k5 297] (ζ [ω aH 0 k2,φ aN 1 aH,au aO 1 aN,wF aT 342 1 4 .u32 0 aO aO,kS k6 295,bm 1 k6 aT] (ζ [yH k7 349 .u64 0,Eu 1 k7 .u64 0] (ξ (ζ [ω aV 0 k2,φ aY 1 aV,aX aU 330 aY] (aq 0 (.mf (.t aU) [aZ,bf] (ζ [δ k8 aZ] (aM [δ k9 bf])) (aq 1 (ζ [φ bk 1 k7,B4 bp bk .u64 1000000000,δ bL k9,hK bz .u64 bL,gy bD bp bz,δ aF bD] (ξ (.regd [φ bH 1 k6,δ bU k8,δ bX aF,φ bY 1 k3,μ 8 (hK cj .u64 bY),μ 28 (R0 cn bX cj),μ 60 (hK bV .u32 cn),μ 127 (aS cE 1 bH bU),μ 255 (bm 1 cE bV)]) (aM [δ cB aF,φ cG 1 k3,hK cN .u64 cG,R1 cO cB cN,bm 1 k7 cO]))))))) (ξ (.regd [φ cP 1 k6,μ 1 (aX cI 298 cP),μ 3 (wH du 0 1 cI),φ dd 1 k7,μ 8 (hK cV .u32 dd),μ 24 (mW dy 342 .u32 0 1 0 1 cV),μ 59 (aX de 298 dy),μ 123 (wH ez 0 1 de),μ 127 (bm 1 k4 du),μ 511 (bm 1 k5 ez)]) Ξ)))))⟩
def SJ:AC:=ζ [δ cG cE,δ k9 cG] (ξ (.regd [δ cN k5,δ cO k6,δ cP k9,μ 6 (gy cI cO cP),μ 15 (aS du 1 cN cI),μ 31 (φ dd 1 du),μ 63 (hK cV .u64 dd),δ dy k7,μ 128 (hK de .u64 dy),bZ ez 1 k3,δ eZ k9,μ 1536 (ch fe 331 ez eZ),μ 3968 (B6 fa de fe),μ 8191 (gy fI cV fa),δ fW k8,μ 32767 (gy fJ fI fW),μ 65535 (δ aF fJ)]) (ζ [δ fR k5,δ fD k6,δ fS k9,gy fK fD fS,δ iM aF,Er jc iM .u64 1000000000,hK je .u32 jc,aS jw 1 fR fK,bm 1 jw je] (aM [δ jx aF,Al jy jx .u64 1000000000,δ k8 jy])))
def SK:AC:=bO (ζ [cm cB cE bV] (ξ (Θ cB ab (bJ 2)) (ξ (aq 3 SJ) (aM [bK im cE .i64 1,δ cE im]))))
def SL:AC:=bO (ζ [cm bD bz bL] (ξ (Θ bD ab (bJ 0)) (ξ (aq 1 (ζ [δ bH bz,aS bU 1 bp bz,φ bX 1 bU,δ k6 bH,δ k7 bX] (ζ [aB k8 .u64 0] (ζ [ω bY 0 k3,φ cj 1 bY,au cn 1 cj,bK bV cn .i64 1,aB cE .i64 0] (aq 2 SK))))) (aM [bK jz bz .i64 1,δ bz jz]))))
def f321:AF:=⟨[k0,k1],[.cell k4 true 1],(ζ [dM k2 297 k0,dM k3 297 k1,kS k4 297] (ζ [ω aH 0 k2,φ aN 1 aH,au aO 1 aN,ω aT 0 k3,φ aV 1 aT,au aY 1 aV,gy aU aO aY,bK aZ aU .i64 1,wF bf 342 1 4 .u32 0 aZ aZ,δ k5 bf] (ξ (ζ [ω bk 0 k2,φ bp 1 bk,au bL 1 bp,aB bz .i64 0] (aq 0 SL)) (ζ [δ jA k5,aX jB 298 jA,wH jC 0 1 jB,bm 1 k4 jC] Ξ))))⟩
def f331:AF:=⟨[k0,k1],[.t k4],(ζ [dM k2 297 k0,aB k4 .u64 0] (ξ (ζ [δ k5 k1,ω k6 0 k2,φ k7 1 k6,au k8 1 k7,cm k9 k5 k8] (Θ k9 (ζ [ω aF 0 k2,φ aH 1 aF,δ aN k1,aS aO 1 aH aN,φ aT 1 aO,hK aV .u64 aT,δ k4 aV] Ξ) ab)) (ζ [aB k4 .u64 0] Ξ)))⟩
def SM:AC:=aM [δ cI k5,δ du k7,δ dd k8,hK cV .u32 dd,aS dy 1 cI du,bm 1 dy cV]
def SN:AC:=aM [bK de bf .i64 1,δ bf de]
def SP:AC:=ζ [cm bk bf aZ] (ξ (Θ bk ab (bJ 0)) (ξ (aq 1 (ζ [δ bp bf,δ k7 bp] (ξ (.regd [δ bL k5,δ bz k7,μ 3 (aS bD 1 bL bz),μ 7 (φ bH 1 bD),μ 15 (hK bU .i64 bH),bZ bX 1 k3,δ bY k7,μ 96 (ch cj 331 bX bY),μ 224 (hK cn .i64 cj),μ 511 (kz bV bU cn),δ cE k6,μ 2047 (kz cB bV cE),μ 4095 (δ k8 cB)]) (ζ [aB k6 .i64 0] (ξ (ζ [δ cG k8,jM cN cG .i64 0] (Θ cN (aM [δ cO k8,bK cP cO .i64 1000000000,δ k8 cP,aB k6 .i64 1]) ab)) SM))))) SN))
def SQ:AC:=bO SP
def f320:AF:=⟨[k0,k1],[.cell k4 true 1],(ζ [dM k2 297 k0,dM k3 297 k1,kS k4 297] (ζ [ω k9 0 k2,φ aF 1 k9,au aH 1 aF,wF aN 342 1 4 .u32 0 aH aH,δ k5 aN] (ζ [δ aO k5,ω aT 0 k2,φ aV 1 aT,⟨some aY,.zD 1 (.t aO) (.t aV),none,0⟩] (ζ [aB k6 .i64 0] (ξ (ζ [δ aU k5,au aZ 1 aU,aB bf .i64 0] (aq 0 SQ)) (ζ [δ ez k5,aX eZ 298 ez,wH fe 0 1 eZ,bm 1 k4 fe] Ξ))))))⟩
def f254:AF:=⟨[k0],[.t k2],(ζ [dM k1 297 k0,cA k2] (ζ [ω k3 0 k1,φ k4 1 k3,au k5 1 k4,cC k6 k5 .i64 1,δ k7 k6,ay k7 (ω k8 0 k1),ay k7 (φ k9 1 k8),ay k7 (B9 aF 1 k9 .i64 0),ay k7 (φ aH 1 aF),ay k7 (cC aN aH .u32 1),eC aO k7 aN,δ k2 aO] Ξ))⟩
def f44:AF:=⟨[k0],[.t k2],(ζ [cA k2] (ζ [δ k3 k0,wD k4 k3 0 0,δ k5 k4,ay k5 (δ k6 k0),ay k5 (au k7 0 k6),ay k5 (yD k8 k7 .i64 200),eC k9 k5 k8,δ aF k9,ay aF (δ aH k0),ay aF (Ep aN 118 aH 6 137967924939296),ay aF (eT aO aN),eC aT aF aO,δ k2 aT] Ξ))⟩
def f118:AF:=⟨[k0,k1],[.t k4],(ζ [cA k4] (ζ [δ k5 k0,δ k6 k1,ch k7 195 k5 k6,iH k8 k7 .i64 0,δ k4 k8] Ξ))⟩
def SR:AC:=bO (ξ (ζ [δ cB k8,δ cG k0,au cN 0 cG,cm cO cB cN] (Θ cO ab (bJ 0))) (ξ (aq 1 (ζ [δ du k0,δ dd k8,jN cV du dd,ch dy 264 k6 cV] (Θ dy (ζ [δ de k8,δ k4 de] Ξ) ab))) (aM [δ cP k8,bK cI cP .i64 1,δ k8 cI])))
def SS:AC:=bO (ζ [Ie fe eZ,eb fa fe 0] (ξ (Θ fa ab (bJ 2)) (aq 3 (ζ [eb fI fe 1,eb fW fe 2,δ k9 fI,δ aF fW] (ζ [δ fJ k1,δ fR aF,ch fD 261 fJ fR,iH fS fD .i64 0] (Θ fS (ζ [δ fK k9,δ k4 fK] Ξ) ab))))))
def f195:AF:=⟨[k0,k1],[.t k4],(ζ [aB k4 .i64 0] (ξ (ζ [δ aH k1,lJ aN aH 0 0] (Θ aN (ζ [aB k4 .i64 (-1)] Ξ) ab)) (ξ (ζ [δ aO k1,au aT 0 aO,cC aV aT .i64 1] (Θ aV (ζ [δ aY k1,uZ aU aY .i64 0,hK aZ .i32 aU,δ k5 aZ] (ξ (ζ [δ bf k5,iH bk bf .i32 128] (Θ bk (aM [aB k5 .i32 65533]) ab)) (ζ [δ bp k0,δ bL k5,ch bz 261 bp bL,δ k4 bz] Ξ))) ab)) (ξ (ζ [δ bD k0,au bH 0 bD,aX bU 262 bH] (Θ bU (ζ [δ bY k1,aX cj 263 bY,δ bX cj,eb cn bX 0,eb bV bX 1,RY k6 315,bm 256 k6 cn,δ k7 bV] (ζ [δ cE k7] (Θ cE (ξ (ζ [aB k8 .i64 0] (aq 0 SR)) (ζ [aB k4 .i64 (-1)] Ξ)) ab))) ab)) (ξ (ζ [δ ez k0,Ic eZ ez] (aq 2 SS)) (ζ [aB k4 .i64 (-1)] Ξ))))))⟩
def SU:AC:=bO (ζ [Ie HS Ld,eb Ry HS 0] (ξ (Θ Ry ab (bJ 9)) (aq 10 (ζ [eb Rz HS 1,eb RA HS 2,δ k5 Rz,δ k6 RA] (ζ [δ RB k6,cC RC RB .i32 65533] (Θ RC (ζ [δ RD k5,δ k4 RD] Ξ) ab))))))
def f261:AF:=⟨[k0,k1],[.t k4],(ζ [aB k4 .i64 0] (aq 0 (ζ [δ HH k1,⟨some HI,.bin .leq (.one .bool) (.c (.i .i32 0)) (.t HH),none,0⟩,δ BT HI,ay BT (δ HJ k1),ay BT (jM HK HJ .i32 128),eC HL BT HK,δ Ef HL] (Θ Ef (ζ [δ HM k0,δ HN k1,hK HO .u8 HN,ch HP 145 HM HO,δ k4 HP] Ξ) (ζ [δ HR k1,cC Rw HR .i32 65533,δ HQ Rw] (Θ HQ (ξ (ζ [δ Rx k0,Ic Ld Rx] (aq 9 SU)) (ζ [aB k4 .i64 (-1)] Ξ)) (ζ [δ RF k1,aX RH 305 RF,eT RI RH,δ RE RI] (Θ RE (ζ [aB k4 .i64 (-1)] Ξ) (.scope (ζ [δ aU k1,⟨some aZ,.cv .zB (.t aU),none,0⟩,δ k7 aZ] (ζ [δ bf k7,au bk 0 bf,dS bp bk .i64 1,δ k8 bp] (ζ [δ bL k8,δ k9 bL] (ζ [aB aF .i64 0] (ξ (aq 1 (bO (ξ (ζ [δ bz k9,δ bD k0,au bH 0 bD,cm bU bz bH] (Θ bU ab (bJ 1))) (aq 2 (.scope (ξ (ξ (.regd [δ bX k0,δ bY k9,μ 3 (jN cj bX bY),δ cn k7,δ bV k8,μ 24 (jN cE cn bV),μ 63 (jZ cB cj cE)]) (Θ cB (ξ (.regd [δ cG k0,δ cN k9,μ 2 (bK cO cN .i64 1),μ 7 (yE cP cG cO),δ cI k7,δ du k8,μ 48 (jN dd cI du),μ 127 (ch cV 145 cP dd),μ 255 (δ aH cV)]) (ξ (ζ [δ dy aH,jM de dy .i64 0] (Θ de (ζ [aB k4 .i64 (-1)] Ξ) ab)) (aM [δ ez k9,δ eZ aH,bK fe eZ .i64 1,gy fa ez fe,δ k9 fa]))) ab)) (ξ (ζ [aB aN .i64 1] (aq 3 (bO (ξ (ζ [δ fI aN,δ fW k7,au fJ 0 fW,cm fR fI fJ] (Θ fR ab (bJ 3))) (ξ (aq 4 (ξ (.regd [δ fK k0,δ iM k9,δ jc aN,μ 6 (kz je iM jc),μ 15 (jN jw fK je),δ jx k7,δ jy k8,δ im aN,μ 192 (kz jz jy im),μ 480 (jN jA jx jz),μ 1023 (jZ jB jw jA)]) (Θ jB .bad ab))) (aM [δ fD aN,bK fS fD .i64 1,δ aN fS])))))) (ξ (ζ [δ jC k9,δ jP k8,kz kj jC jP,δ k4 kj] Ξ) (ξ ab (ζ [δ fE aF,bK kK fE .i64 1,δ aF kK] (ζ [δ lV k9,bK lW lV .i64 1,δ k9 lW] (ζ [kR lf,ay lf (δ oq aF),ay lf (δ ot k9),ay lf (aX ou 306 ot),ay lf (Am ov oq ou),eC ox lf ov,δ lX ox,ay lX (δ nz k9),ay lX (δ oU k0),ay lX (au qD 0 oU),ay lX (cm sk nz qD),eC sn lX sk,δ lh sn,aa lh (cA oV),ay oV (δ so aF),ay oV (δ sr k9),ay oV (Lr sx sr .u64 4),ay oV (Lq sy .i64 4 sx),ay oV (B7 ri so sy),aa lh (eC uj oV ri),aa lh (δ oy uj),ay oy (δ vJ k9),ay oy (δ wq k0),ay oy (au wu 0 wq),ay oy (cm wv vJ wu),aa lh (eC wx oy wv),dI wy lh wx] (Θ wy .bad ab))))))))))))) (ξ (ζ [aB k4 .i64 (-1)] Ξ) (ξ ab (ξ (.cond (.c (.b true)) (ζ [δ wz k0,δ tn k9,δ uM k8,kz pP tn uM,yE uN wz pP,δ uO k1,⟨some uP,.cv .zB (.t uO),none,0⟩,ch uQ 307 uN uP,δ aO uQ] (ζ [δ uR aO,iH uS uR .i64 0] (Θ uS (ζ [δ uT k9,δ uU aO,gy xY uT uU,δ lH k8,kz xZ xY lH,δ k4 xZ] Ξ) ab))) (.scope (ζ [δ ya k7,δ yb k8,jN yc ya yb,δ aT yc] (ζ [δ yd k7,δ ye k8,dS yf ye .i64 1,jN yg yd yf,δ aV yg] (ξ ab (aq 5 (bO (ξ (ζ [δ qF k9,δ tq k0,au yh 0 tq,cm yi qF yh] (Θ yi ab (bJ 5))) (ξ (aq 6 (ζ [δ ym k0,δ tv k9,jN yn ym tv,δ yo aT,uY yp yn yo,δ pQ yp,ay pQ (δ yq k0),ay pQ (δ yr k9),ay pQ (dS yt yr .i64 1),ay pQ (jN yu yq yt),ay pQ (δ yw aV),ay pQ (uY yx yu yw),eC yz pQ yx] (Θ yz (ξ (ζ [aB aY .i64 2] (aq 7 (bO (ξ (ζ [δ yA aY,δ BR k7,au BS 0 BR,cm Hm yA BS] (Θ Hm ab (bJ 7))) (ξ (aq 8 (ξ (.regd [δ Hr k0,δ Ht k9,δ Hu aY,μ 6 (kz Hv Ht Hu),μ 15 (jN Hw Hr Hv),δ Hy k7,δ Hz k8,δ HA aY,μ 192 (kz HB Hz HA),μ 480 (jN HC Hy HB),μ 1023 (jZ HD Hw HC)]) (Θ HD (bJ 6) ab))) (aM [δ Ho aY,bK Hq Ho .i64 1,δ aY Hq])))))) (ζ [δ HE k9,δ HF k8,kz HG HE HF,δ k4 HG] Ξ)) ab))) (aM [δ yj k9,bK yl yj .i64 1,δ k9 yl])))))))))) (ζ [aB k4 .i64 (-1)] Ξ))))))))))))))))))⟩
def f145:AF:=⟨[k0,k1],[.t k4],(ζ [aB k4 .i64 0] (ζ [δ k5 k0,δ k6 k1,ch k7 209 k5 k6,δ k4 k7] Ξ))⟩
def f305:AF:=⟨[k0],[.t k2],(ζ [cA k2] (ξ (aq 0 (ζ [δ k4 k0,⟨some k5,.bin .leq (.one .bool) (.c (.i .i32 0)) (.t k4),none,0⟩,δ k6 k5,ay k6 (δ k7 k0),ay k6 (jM k8 k7 .i32 55296),eC k9 k6 k8,δ k3 k9] (Θ k3 (ζ [kR k2] Ξ) (ζ [δ aH k0,⟨some aN,.bin .lss (.one .bool) (.c (.i .i32 57343)) (.t aH),none,0⟩,δ aO aN,ay aO (δ aT k0),ay aO (yD aV aT .i32 1114111),eC aY aO aV,δ aF aY] (Θ aF (ζ [kR k2] Ξ) ab))))) (ζ [cA k2] Ξ)))⟩
def f262:AF:=⟨[k0],[.t k2],(ζ [cA k2] (ζ [δ k3 k0,fy k4 k3 .i64 8,δ k2 k4] Ξ))⟩
def SV:AC:=bO (ξ (ζ [δ k6 k4,δ k7 k0,au k8 0 k7,cm k9 k6 k8] (Θ k9 ab (bJ 0))) (ξ (aq 1 (ζ [δ aN k0,δ aO k4,jN aT aN aO,δ k5 aT] (ξ (ζ [δ aV k5,iH aY aV .u8 128] (Θ aY (ζ [bZ aU 256 k2,bm 256 k2 aU,cA k3] Ξ) ab)) (aM [δ aZ k5,⟨some bf,.iad (some 256) 1 (.t k2) (.t aZ),none,0⟩,Ib 1 bf])))) (aM [δ aF k4,bK aH aF .i64 1,δ k4 aH])))
def f263:AF:=⟨[k0],[.cell k2 true 256,.t k3],(ζ [RY k2 315,cA k3] (ξ (ζ [aB k4 .i64 0] (aq 0 SV)) (ζ [bZ bk 256 k2,bm 256 k2 bk,kR k3] Ξ)))⟩
def f264:AF:=⟨[k0,k1],[.t k4],(ζ [cA k4] (ζ [δ k5 k0,δ k6 k1,⟨some k7,.nck (.t k5),none,0⟩,⟨some k8,.iad (some 256) 1 (.t k7) (.t k6),none,0⟩,φ k9 1 k8,δ k4 k9] Ξ))⟩
def SW:AC:=ζ [aB k2 .i64 5] Ξ
def SX:AC:=bO (ζ [cm de dy cV] (ξ (Θ de ab (bJ 0)) (ξ (aq 1 (ζ [δ ez dy,aS eZ 2 dd dy,bZ fe 2 eZ,⟨some k4,.new 64 [.s 0 0,.s 0 0],none,0⟩,δ k3 ez,bm 2 k4 fe] (ξ (.regd [ω fa 0 k4,μ 1 (φ fI 1 fa),μ 3 (aX fW 44 fI),μ 7 (eT fJ fW),μ 15 (gT fR 42 fJ .i64 6),ω fD 0 k1,μ 32 (ω fS 3 fD),μ 96 (φ fK 1 fS),δ iM k3,μ 480 (B5 jc 2 fK iM),ω je 0 k4,μ 1024 (φ jw 1 je),μ 4095 (ch jx 106 jc jw),μ 8191 (gT jy 42 jx .i64 7),μ 16383 (wC im 29 .i64 0 .i64 0 2 0 1 fR 1 1 jy),μ 32767 (aX jz 41 im),μ 65535 (δ k5 jz)]) (ζ [δ jA k5,iI jB jA .i64 0] (Θ jB (ζ [δ jC k5,δ k2 jC] Ξ) ab))))) (aM [bK jP dy .i64 1,δ dy jP]))))
def SY:AC:=ζ [aB k2 .i64 0] Ξ
def Ly:AC:=ξ (ζ [ω cI 0 k1,ω du 3 cI,φ dd 1 du,au cV 1 dd,aB dy .i64 0] (aq 0 SX)) SY
def f100:AF:=⟨[k0],[.t k2],(ζ [dM k1 141 k0,aB k2 .i64 0] (ξ (ζ [ω k6 0 k1,ω k7 0 k6,φ k8 1 k7,aX k9 56 k8,eT aF k9,δ aH aF,ay aH (ω aN 0 k1),ay aH (ω aO 3 aN),ay aH (φ aT 1 aO),ay aH (au aV 1 aT),ay aH (fy aY aV .i64 0),eC aU aH aY,δ aZ aU,aa aZ (ω bf 0 k1),aa aZ (ω bk 0 bf),aa aZ (φ bp 1 bk),aa aZ (aX bL 56 bp),aa aZ (δ bz bL),ay bz (ω bD 0 k1),ay bz (ω bH 3 bD),ay bz (φ bU 1 bH),ay bz (au bX 1 bU),ay bz (jM bY bX .i64 1),ay bz (δ cj bY),aa cj (ω cn 0 k1),aa cj (ω bV 3 cn),aa cj (φ cE 1 bV),aa cj (au cB 1 cE),aa cj (fy cG cB .i64 12),ay bz (dI cN cj cG),aa aZ (eC cO bz cN),dI cP aZ cO] (Θ cP SW ab)) Ly))⟩
def f106:AF:=⟨[k0,k1],[.t k4],(ζ [dM k3 9 k1,cA k4] (ζ [δ k5 k0,Ao k6 191 k3,ch k7 181 k5 k6,δ k4 k7] Ξ))⟩
def f191:AF:=⟨[k0,k1],[.t k3],(ζ [dM k2 64 k0,cA k3] (ζ [ω k4 0 k2,φ k5 1 k4,φ k6 1 k1,tz k7 k5 k6,δ k3 k7] Ξ))⟩
def f181:AF:=⟨[k0,k1],[.t k4],(ζ [cA k4] (ζ [δ k5 k0,δ k6 k1,ch k7 241 k5 k6,iH k8 k7 .i64 0,δ k4 k8] Ξ))⟩
def SZ:AC:=bO (ζ [cm k9 k8 k7] (ξ (Θ k9 ab (bJ 0)) (ξ (aq 1 (ζ [δ aF k8,δ k5 aF] (ζ [δ aH k1,δ aN k0,δ aO k5,aS aT 2 aN aO,bZ aV 2 aT,An aY aH aV] (Θ aY (ζ [δ aU k5,δ k4 aU] Ξ) ab)))) (aM [bK aZ k8 .i64 1,δ k8 aZ]))))
def S0:AC:=ζ [aB k4 .i64 (-1)] Ξ
def f241:AF:=⟨[k0,k1],[.t k4],(ζ [aB k4 .i64 0] (ξ (ζ [δ k6 k0,au k7 1 k6,aB k8 .i64 0] (aq 0 SZ)) S0))⟩
def S1:AC:=ζ [δ fK k3,gT iM 42 fK .i64 13,δ k2 iM] Ξ
def f101:AF:=⟨[k0],[.t k2],(ζ [dM k1 141 k0,aB k2 .i64 0] (ζ [cA k3] (ξ (ζ [ω k5 0 k1,ω k6 0 k5,φ k7 1 k6,⟨some k8,.iad (some 20) 4 (.c (.p k0 0)) (.t k7),none,0⟩,ω k9 2 k8,φ aF 1 k9,δ k4 aF] (ζ [δ aH k4] (aq 0 (ζ [lJ aZ aH 1 110,δ aU aZ] (Θ aU (.regd [ω bf 0 k1,μ 1 (ω bk 1 bf),μ 3 (φ bp 1 bk),μ 7 (aX bL 189 bp),μ 15 (eT bz bL),μ 31 (δ bD bz),μ 63 (aa bD (ω bH 0 k1)),μ 127 (aa bD (ω bU 0 bH)),μ 255 (aa bD (φ bX 1 bU)),μ 511 (aa bD (cC bY bX .i64 2)),μ 1023 (aa bD (δ cj bY)),μ 2047 (ay cj (ω cn 0 k1)),μ 4095 (ay cj (ω bV 2 cn)),μ 8191 (ay cj (φ cE 1 bV)),μ 16383 (ay cj (aX cB 187 cE)),μ 32767 (ay cj (cC cG cB .i64 0)),μ 2047 (ay cj (ω cN 0 k1)),μ 67583 (ay cj (ω cO 1 cN)),μ 198655 (ay cj (φ cP 1 cO)),μ 460799 (ay cj (lJ cI cP 3 7630409)),μ 1048575 (ay cj (H9 du cG cI)),μ 2097151 (aa bD (eC dd cj du)),μ 4194303 (dI cV bD dd),μ 8388607 (δ k3 cV)]) (ζ [lJ de aH 1 115,δ dy de] (Θ dy (aM [ω ez 0 k1,ω eZ 1 ez,φ fe 1 eZ,lJ fa fe 0 0,δ k3 fa]) (ζ [lJ fW aH 1 45,δ fI fW] (Θ fI (aM [ω fJ 0 k1,ω fR 1 fJ,φ fD 1 fR,wD fS fD 0 0,δ k3 fS]) (aM [ω aN 0 k1,ω aO 1 aN,φ aT 1 aO,δ aV k4,B8 aY aT aV,δ k3 aY])))))))))) S1)))⟩
def f189:AF:=⟨[k0],[.t k2],(ζ [cA k2] (ζ [δ k3 k0,lJ k4 k3 3 7630409,δ k5 k4,aa k5 (δ k6 k0),aa k5 (lJ k7 k6 4 1818322258),dI k8 k5 k7,δ k2 k8] Ξ))⟩
def S2:AC:=bO (ζ [cm aZ aU aY] (ξ (Θ aZ ab (bJ 2)) (ξ (aq 3 (ζ [aS bf 1 aV aU,φ bk 1 bf,δ k6 bk] (.regd [φ bp 1 k3,ω bL 5 k4,μ 2 (φ bz 1 bL),φ bD 1 k3,ω bH 5 k4,μ 16 (φ bU 1 bH),μ 56 (aS bX 1 bD bU),μ 120 (φ bY 1 bX),φ cj 1 k3,δ cn k6,μ 768 (aS bV 1 cj cn),μ 1792 (φ cE 1 bV),⟨some cB,.mm true [(.t bY),(.t cE)],none,4088⟩,μ 8191 (aS cG 1 bp bz),μ 16383 (bm 1 cG cB)]))) (aM [bK cN aU .i64 1,δ aU cN]))))
def S3:AC:=aM [φ cO 1 k3,ω cP 5 k4,φ cI 1 cP,aS du 1 cO cI,φ dd 1 du,bK cV dd .i64 1,aS dy 1 cO cI,bm 1 dy cV]
def f103:AF:=⟨[k0],[.t k2],(ζ [aB k2 .i64 0] (ζ [δ k7 k0,au k8 1 k7,wF k9 3 1 8 .i64 0 k8 k8,kS k3 85,bm 1 k3 k9] (ξ (ζ [δ aF k0,aX aH 82 aF] (aq 0 (.mf (.t aH) [aN] (aM [⟨some k4,.new 141 [.i .i64 0,.s 0 0,.s 0 0,.ns,.ns,.i .i64 0],none,0⟩,bm 6 k4 aN]) (aq 1 (ξ (ζ [ω aO 0 k4,ω aT 4 aO,φ aV 1 aT,au aY 1 aV,aB aU .i64 0] (aq 2 S2)) S3))))) (ζ [φ de 1 k3,φ ez 1 k3,au eZ 1 ez,dS fe eZ .i64 1,aS fa 1 de fe,φ fI 1 fa,δ k2 fI] Ξ))))⟩
def adC:AC:=ζ [yG 1 aF] Ξ
def adD:AC:=Θ ot (ζ [bZ ou 2 aT,ω ov 2 aH,φ ox 1 ov,ω lX 2 aN,φ nz 1 lX,⟨some oU,.bld [.s 0 0,.s 0 0] [(0,1,(.t ox)),(1,1,(.t nz))],none,0⟩,⟨some qD,.bin .eql (.agg [(0,.str),(1,.str)]) (.t ou) (.t oU),none,0⟩,bm 1 aF qD] Ξ) ab
def adE:AC:=ζ [δ jx k4,aX jy 173 jx] (aq 0 (.mf (.t jy) [im,jz] (aM [⟨some aT,.new 232 [.s 0 0,.s 0 0],none,0⟩,bm 2 aT jz]) (aq 1 (ζ [⟨some jA,.iad (some 2) 1 (.t aT) (.c (.i .i64 0)),none,0⟩,φ jB 1 jA,ω jC 2 aH,φ jP 1 jC,tz kj jB jP,δ fE kj,⟨some kK,.iad (some 2) 1 (.t aT) (.c (.i .i64 1)),some (fE,false),0⟩,aa fE (φ lV 1 kK),aa fE (ω lW 2 aN),aa fE (φ lf 1 lW),aa fE (tz oq lV lf),dI ot fE oq] adD))))
def adF:AC:=bO (ζ [cm vJ oy uj] (ξ (Θ vJ ab (bJ 2)) (ξ (aq 3 (ζ [δ wq oy,aS wu 2 ri oy,bZ wv 2 wu,⟨some aY,.new 64 [.s 0 0,.s 0 0],none,0⟩,δ aV wq,bm 2 aY wv] (ξ (ξ (.regd [ω wx 1 aY,μ 1 (φ wy 1 wx),ω wz 3 aN,μ 4 (φ tn 1 wz),δ uM aV,μ 28 (aS pP 2 tn uM),μ 60 (ω uN 1 pP),μ 124 (φ uO 1 uN),μ 255 (B8 uP wy uO)]) (Θ uP (ζ [yG 1 aF] Ξ) ab)) (.regd [δ uQ k4,ω uR 0 aY,μ 2 (φ uS 1 uR),ω uT 3 aN,μ 8 (φ uU 1 uT),δ xY aV,μ 56 (aS lH 2 uU xY),μ 120 (ω xZ 0 lH),μ 248 (φ ya 1 xZ),⟨some yb,.bld [.s 0 0,.s 0 0] [(0,1,(.t uS)),(1,1,(.t ya))],none,510⟩,⟨some yc,.bsl 232 [.s 0 0,.s 0 0] 1 [(0,2,(.t yb))],none,1022⟩,⟨some yd,.app 232 2 32 [.s 0 0,.s 0 0] false (.t uQ) (.t yc),none,2047⟩,μ 4095 (δ k4 yd)])))) (aM [bK ye oy .i64 1,δ oy ye]))))
def adG:AC:=bO (ζ [cm yh tq qF] (ξ (Θ yh ab (bJ 4)) (ξ (aq 5 (ζ [δ yi tq,δ aU yi] (ξ (.regd [δ yj k0,δ yl k1,ω ym 4 aH,μ 4 (φ tv 1 ym),δ yn aU,μ 28 (aS yo 1 tv yn),μ 60 (φ yp 1 yo),ω pQ 4 aN,μ 128 (φ yq 1 pQ),δ yr aU,μ 896 (aS yt 1 yq yr),μ 1920 (φ yu 1 yt),δ yw k4,⟨some yx,.hU (.c (.f 86 [] [])) [(.t yj),(.t yl),(.t yp),(.t yu),(.t yw)],none,8191⟩,μ 16383 (eT yz yx)]) (Θ yz (ζ [yG 1 aF] Ξ) ab)))) (aM [bK yA tq .i64 1,δ tq yA]))))
def adH:AC:=ζ [Ib 1 aF] Ξ
def adI:AC:=ξ (ζ [ω sk 2 aH,φ sn 1 sk,ω lh 2 aN,φ oV 1 lh,B8 so sn oV] (Θ so (ζ [yG 1 aF] Ξ) ab)) (ζ [δ sr k4,aX sx 174 sr,δ k4 sx] (ξ (ζ [ω sy 3 aH,φ ri 1 sy,au uj 1 ri,aB oy .i64 0] (aq 2 adF)) (ξ (ζ [ω yf 4 aH,φ yg 1 yf,au qF 1 yg,aB tq .i64 0] (aq 4 adG)) adH)))
def adJ:AC:=ξ (ζ [ω jc 0 aH,φ je 1 jc,cC jw je .i64 3] (Θ jw adE ab)) adI
def f86:AF:=⟨[k0,k1,k2,k3,k4],[.cell aF false 1],(ζ [⟨some aF,.new 4 [.b false],none,0⟩] (ξ (.regd [δ aZ k0,δ bf k2,μ 3 (aS bk 5 aZ bf),μ 7 (bZ bp 5 bk),δ bL k1,δ bz k3,μ 48 (aS bD 5 bL bz),μ 112 (bZ bH 5 bD),rQ aH 87 .i64 0 0 0 0 0,rQ aN 87 .i64 0 0 0 0 0,μ 783 (bm 5 aH bp),μ 2047 (bm 5 aN bH)]) (ξ (ζ [ω bU 0 aH,φ bX 1 bU,ω bY 0 aN,φ cj 1 bY,jZ cn bX cj,δ bV cn,aa bV (ω cE 1 aH),aa bV (φ cB 1 cE),aa bV (ω cG 1 aN),aa bV (φ cN 1 cG),aa bV (B8 cO cB cN),dI cP bV cO,δ cI cP,aa cI (ω du 4 aH),aa cI (φ dd 1 du),aa cI (au cV 1 dd),aa cI (ω dy 4 aN),aa cI (φ de 1 dy),aa cI (au ez 1 de),aa cI (jZ eZ cV ez),dI fe cI eZ,δ fa fe,aa fa (ω fI 3 aH),aa fa (φ fW 1 fI),aa fa (au fJ 1 fW),aa fa (ω fR 3 aN),aa fa (φ fD 1 fR),aa fa (au fS 1 fD),aa fa (jZ fK fJ fS),dI iM fa fK] (Θ iM adC ab)) adJ)))⟩
def f173:AF:=⟨[k0],[.t k2],(ζ [dM k1 227 k0,Ew k2] (ζ [Ao k3 239 k1,δ k2 k3] Ξ))⟩
def adK:AC:=bO (ξ (ζ [δ k7 k3,iH k8 k7 .i64 0] (Θ k8 ab (bJ 0))) (ξ (aq 1 (ζ [δ aH k0,δ aN k3,φ aO 1 k1,δ aT k3,aS aV 2 aO aT,bZ aY 2 aV,Ia aU aH aN aY,eT aZ aU] (Θ aZ Ξ ab))) (aM [δ k9 k3,dS aF k9 .i64 1,δ k3 aF])))
def f239:AF:=⟨[k0,k1],[],(ζ [φ k4 1 k1,au k5 1 k4,dS k6 k5 .i64 1,δ k3 k6] (aq 0 adK))⟩
def adL:AC:=ξ (ζ [δ k3 k0,Lu k4 k3] (Θ k4 (ζ [cR k2] Ξ) ab)) (ζ [⟨some k5,.bsl 232 [] 0 [],none,0⟩,δ k6 k0,⟨some k7,.app 232 2 32 [.s 0 0,.s 0 0] false (.t k5) (.t k6),none,0⟩,δ k2 k7] Ξ)
def f174:AF:=⟨[k0],[.t k2],(ζ [cR k2] adL)⟩
def S4:AC:=ζ [δ bL k3,δ k2 bL] Ξ
def S5:AC:=ζ [δ jc k7,iI je jc .i64 0] (Θ je (ζ [δ jw k7,δ k2 jw] Ξ) ab)
def S6:AC:=ξ (.regd [δ jx k0,bZ jy 5 k6,μ 3 (ch im 110 jx jy),μ 7 (eT jz im),μ 15 (gT jA 49 jz .i64 11),bZ jB 5 k6,μ 63 (aX jC 111 jB),bZ jP 5 k6,μ 255 (aX kj 112 jP),bZ fE 5 k6,μ 1023 (aX kK 113 fE),⟨some lV,.bsl 3 [.i .i64 0,.i .i64 0,.i .i64 0,.i .i64 0] 4 [(0,1,(.t jA)),(1,1,(.t jC)),(2,1,(.t kj)),(3,1,(.t kK))],none,2047⟩,μ 4095 (aX lW 48 lV),μ 8191 (δ k8 lW)]) (ζ [δ lf k8,iI oq lf .i64 0] (Θ oq (ζ [δ ot k8,δ k2 ot] Ξ) ab))
def S7:AC:=ζ [δ bV k0,δ cE k5,aS cB 5 bV cE,bZ cG 5 cB,rQ k6 87 .i64 0 0 0 0 0,bm 5 k6 cG] (ξ (ξ (.regd [ω cN 0 k6,μ 1 (φ cO 1 cN),μ 3 (jM cP cO .i64 0),μ 7 (δ cI cP),μ 15 (aa cI (ω du 0 k6)),μ 31 (aa cI (φ dd 1 du)),μ 63 (aa cI (iH cV dd .i64 20)),μ 127 (dI dy cI cV),μ 255 (gT de 49 dy .i64 11),bZ ez 5 k6,μ 1023 (aX eZ 108 ez),μ 2047 (eT fe eZ),μ 4095 (gT fa 49 fe .i64 2),δ fI k0,δ fW k4,δ fJ k5,⟨some fR,.hU (.c (.f 109 [] [])) [(.t fI),(.t fW),(.t fJ)],none,65535⟩,μ 131071 (eT fD fR),μ 262143 (gT fS 49 fD .i64 9),⟨some fK,.bsl 3 [.i .i64 0,.i .i64 0,.i .i64 0] 3 [(0,1,(.t de)),(1,1,(.t fa)),(2,1,(.t fS))],none,524287⟩,μ 1048575 (aX iM 48 fK),μ 2097151 (δ k7 iM)]) S5) S6)
def S8:AC:=bO (ξ (ζ [δ bH k5,δ bU k0,au bX 1 bU,cm bY bH bX] (Θ bY ab (bJ 0))) (ξ (aq 1 S7) (aM [δ cj k5,bK cn cj .i64 1,δ k5 cn])))
def S9:AC:=ζ [δ bz k0,aX bD 107 bz,δ k4 bD] (ξ (ζ [aB k5 .i64 0] (aq 0 S8)) (ζ [δ ou k0,au ov 1 ou,dS ox ov .i64 1,δ k9 ox] (ξ (.regd [δ lX k4,δ nz k9,μ 3 (aS oU 1 lX nz),μ 7 (φ qD 1 oU),μ 15 (iI sk qD .i64 0),μ 31 (gT sn 49 sk .i64 9),δ lh k0,δ oV k9,μ 192 (aS so 5 lh oV),μ 448 (ω sr 0 so),μ 960 (φ sx 1 sr),μ 1984 (cC sy sx .i64 19),μ 4095 (gT ri 49 sy .i64 11),δ uj k0,μ 16383 (aX oy 114 uj),δ vJ k9,μ 65535 (aS wq 1 oy vJ),μ 131071 (φ wu 1 wq),μ 262143 (fy wv wu .i64 60),μ 524287 (gT wx 49 wv .i64 24),⟨some wy,.bsl 3 [.i .i64 0,.i .i64 0,.i .i64 0] 3 [(0,1,(.t sn)),(1,1,(.t ri)),(2,1,(.t wx))],none,1048575⟩,μ 2097151 (aX wz 48 wy),μ 4194303 (δ k2 wz)]) Ξ)))
def f39:AF:=⟨[k0],[.t k2],(ζ [aB k2 .i64 0] (ξ (ζ [δ aF k0,au aH 1 aF,cC aN aH .i64 0,gT aO 49 aN .i64 10,δ aT k0,au aV 1 aT,fy aY aV .i64 2000,gT aU 49 aY .i64 5,wC aZ 3 .i64 0 .i64 0 2 0 1 aO 1 1 aU,aX bf 48 aZ,δ k3 bf] (ζ [δ bk k3,iI bp bk .i64 0] (Θ bp S4 ab))) S9))⟩
def f49:AF:=⟨[k0,k1],[.t k4],(ζ [aB k4 .i64 0] (ξ (ζ [δ k5 k0] (Θ k5 (ζ [δ k6 k1,δ k4 k6] Ξ) ab)) (ζ [aB k4 .i64 0] Ξ)))⟩
def Ta:AC:=bO (ξ (ζ [δ k4 k3,δ k5 k0,au k6 1 k5,cm k7 k4 k6] (Θ k7 ab (bJ 0))) (ξ (aq 1 (ζ [δ aF k0,δ aH k3,aS aN 1 aF aH,φ aO 1 aN,iI aT aO .i64 0] (Θ aT (ζ [δ aV k0,δ aY k3,aS aU 1 aV aY,φ aZ 1 aU,δ k2 aZ] Ξ) ab))) (aM [δ k8 k3,bK k9 k8 .i64 1,δ k3 k9])))
def Td:AC:=ζ [aB k2 .i64 0] Ξ
def f48:AF:=⟨[k0],[.t k2],(ζ [aB k2 .i64 0] (ξ (ζ [aB k3 .i64 0] (aq 0 Ta)) Td))⟩
def Te:AC:=aM [δ aN k4,bK aO aN .i64 1,δ k4 aO]
def Tf:AC:=ξ (ζ [δ k8 k4,δ k9 k0,au aF 1 k9,cm aH k8 aF] (Θ aH ab (bJ 0))) (ξ (aq 1 (ζ [δ aT k3,δ aV k4,δ aY k4,aS aU 1 aT aV,bm 1 aU aY] (ζ [δ aZ k0,δ bf k4,aS bk 5 aZ bf,ω bp 4 bk,φ bL 1 bp,au bz 1 bL,fy bD bz .i64 0,δ bH bD,ay bH (δ bU k0),ay bH (δ bX k3),ay bH (δ bY k4),⟨some cj,.hU (.c (.f 109 [] [])) [(.t bU),(.t bX),(.t bY)],some (bH,true),0⟩,eC cn bH cj] (Θ cn (aM [δ bV k3,δ cE k4,δ cB k3,δ cG k0,δ cN k4,aS cO 5 cG cN,ω cP 4 cO,φ cI 1 cP,B9 du 1 cI .i64 0,φ dd 1 du,aS cV 1 cB dd,φ dy 1 cV,aS de 1 bV cE,bm 1 de dy]) ab)))) Te)
def Tg:AC:=bO Tf
def f107:AF:=⟨[k0],[.t k2],(ζ [cR k2] (ζ [δ k5 k0,au k6 1 k5,wF k7 3 1 8 .i64 0 k6 k6,δ k3 k7] (ξ (ζ [aB k4 .i64 0] (aq 0 Tg)) (ζ [δ ez k3,δ k2 ez] Ξ))))⟩
def Th:AC:=bO (ξ (ζ [δ aU k8,iH aZ aU .i64 0] (Θ aZ ab (bJ 0))) (ξ (aq 1 (ξ (ζ [δ bp k0,δ bL k2,aS bz 5 bp bL,ω bD 4 bz,φ bH 1 bD,δ bU k8,aS bX 1 bH bU,φ bY 1 bX,jM cj bY .i64 0,δ cn cj,aa cn (δ bV k0),aa cn (δ cE k2),aa cn (aS cB 5 bV cE),aa cn (ω cG 4 cB),aa cn (φ cN 1 cG),aa cn (δ cO k8),aa cn (aS cP 1 cN cO),aa cn (φ cI 1 cP),aa cn (δ du k7),aa cn (dS dd du .i64 1),aa cn (jZ cV cI dd),dI dy cn cV] (Θ dy (ζ [cA k6] Ξ) ab)) (aM [δ de k1,δ ez k0,δ eZ k2,aS fe 5 ez eZ,ω fa 4 fe,φ fI 1 fa,δ fW k8,aS fJ 1 fI fW,φ fR 1 fJ,aS fD 1 de fR,φ fS 1 fD,δ k7 fS]))) (aM [δ bf k8,dS bk bf .i64 1,δ k8 bk])))
def Ti:AC:=ζ [kR k6] Ξ
def f109:AF:=⟨[k0,k1,k2],[.t k6],(ζ [cA k6] (ζ [δ k9 k2,δ k7 k9] (ξ (ζ [δ aF k0,δ aH k2,aS aN 5 aF aH,ω aO 4 aN,φ aT 1 aO,au aV 1 aT,dS aY aV .i64 1,δ k8 aY] (aq 0 Th)) Ti)))⟩
def Tj:AC:=Θ cn (ζ [ω cG 4 k1,φ cN 1 cG,au cO 1 cN,iH cP cO .i64 1,δ k2 cP] Ξ) ab
def Tk:AC:=Θ aT (ζ [kR k2] Ξ) (ζ [cC bf k4 .i64 5,δ aZ bf] (Θ aZ (ζ [ω bk 4 k1,φ bp 1 bk,au bL 1 bp,cC bz bL .i64 1,δ k2 bz] Ξ) (ζ [cC bH k4 .i64 10,δ bD bH] (Θ bD (ζ [ω bU 4 k1,φ bX 1 bU,au bY 1 bX,cC cj bY .i64 3,δ k2 cj] Ξ) (ξ (ζ [cC bV k4 .i64 17,δ cn bV] (Θ cn ab (ζ [cC cE k4 .i64 18,δ cn cE] (Θ cn ab (aM [cC cB k4 .i64 19,δ cn cB]))))) Tj)))))
def Tl:AC:=Θ k5 (ζ [ω aF 4 k1,φ aH 1 aF,au aN 1 aH,cC aO aN .i64 0,δ k2 aO] Ξ) (ξ (ζ [cC aV k4 .i64 4,δ aT aV] (Θ aT ab (ζ [cC aY k4 .i64 6,δ aT aY] (Θ aT ab (aM [cC aU k4 .i64 7,δ aT aU]))))) Tk)
def Ey:AC:=ζ [ω cI 4 k1,φ du 1 cI,au dd 1 du,cC cV dd .i64 2,δ k2 cV] Ξ
def f108:AF:=⟨[k0],[.t k2],(ζ [dM k1 87 k0,cA k2] (ξ (ζ [ω k3 0 k1,φ k4 1 k3] (aq 0 (ξ (ζ [cC k6 k4 .i64 0,δ k5 k6] (Θ k5 ab (ζ [cC k7 k4 .i64 1,δ k5 k7] (Θ k5 ab (ζ [cC k8 k4 .i64 2,δ k5 k8] (Θ k5 ab (aM [cC k9 k4 .i64 3,δ k5 k9]))))))) Tl))) Ey))⟩
def Tm:AC:=ζ [δ bH k0,ω bU 4 k3,φ bX 1 bU,δ bY k5,aS cj 1 bX bY,φ cn 1 cj,aS bV 5 bH cn,ω cE 0 bV,φ cB 1 cE,cC cG cB .i64 19,δ cN k6,H9 cO cG cN] (Θ cO (ζ [cA k4] Ξ) ab)
def Tn:AC:=aM [δ aN k5,bK aO aN .i64 1,δ k5 aO]
def To:AC:=ξ (ζ [δ k7 k5,ω k8 4 k3,φ k9 1 k8,au aF 1 k9,cm aH k7 aF] (Θ aH ab (bJ 0))) (ξ (aq 1 (ζ [ω aT 0 k3,φ aV 1 aT,aX aY 66 aV,δ aU aY,ay aU (δ aZ k5),ay aU (ω bf 4 k3),ay aU (φ bk 1 bf),ay aU (au bp 1 bk),ay aU (dS bL bp .i64 1),ay aU (cm bz aZ bL),eC bD aU bz,δ k6 bD] Tm)) Tn)
def Tp:AC:=bO To
def Lz:AC:=ζ [kR k4] Ξ
def f110:AF:=⟨[k0,k1],[.t k4],(ζ [dM k3 87 k1,cA k4] (ξ (ζ [aB k5 .i64 0] (aq 0 Tp)) Lz))⟩
def f66:AF:=⟨[k0],[.t k2],(ζ [cA k2] (ζ [δ k3 k0,cC k4 k3 .i64 17,δ k5 k4,aa k5 (δ k6 k0),aa k5 (cC k7 k6 .i64 18),dI k8 k5 k7,δ k2 k8] Ξ))⟩
def Tq:AC:=ζ [δ bD k3,eT bH bD,gT bU 49 bH .i64 6,δ k2 bU] Ξ
def f111:AF:=⟨[k0],[.t k2],(ζ [dM k1 87 k0,aB k2 .i64 0] (ζ [ω k4 2 k1,φ k5 1 k4,lJ k6 k5 0 0,δ k3 k6] (ξ (ζ [ω k7 0 k1,φ k8 1 k7] (aq 0 (ζ [cC aF k8 .i64 2,δ k9 aF] (Θ k9 (aM [ω aH 2 k1,φ aN 1 aH,aX aO 192 aN,δ k3 aO]) (ζ [cC aV k8 .i64 3,δ aT aV] (Θ aT (aM [ω aY 2 k1,φ aU 1 aY,aX aZ 50 aU,δ k3 aZ]) (ζ [cC bk k8 .i64 4,δ bf bk] (Θ bf (aM [ω bp 2 k1,φ bL 1 bp,wD bz bL 0 0,δ k3 bz]) ab)))))))) Tq)))⟩
def f192:AF:=⟨[k0],[.t k2],(ζ [cA k2] (ζ [δ k3 k0,aX k4 193 k3,cC k5 k4 .i64 0,δ k6 k5,aa k6 (δ k7 k0),aa k6 (aX k8 194 k7),aa k6 (cC k9 k8 .i64 0),dI aF k6 k9,δ k2 aF] Ξ))⟩
def f193:AF:=⟨[k0],[.t k2],(ζ [aB k2 .i64 0] (ξ (ζ [δ k4 k0,aX k5 256 k4,eT k6 k5] (Θ k6 (ζ [aB k2 .i64 1] Ξ) ab)) (ζ [δ k7 k0,au k8 0 k7,δ k3 k8] (ξ (ζ [δ k9 k0,uZ aF k9 .i64 0,cC aH aF .u8 45] (Θ aH (aM [δ aN k3,dS aO aN .i64 1,δ k3 aO]) ab)) (ζ [δ aT k3,fy aV aT .i64 120,gT aY 49 aV .i64 4,δ k2 aY] Ξ)))))⟩
def Ts:AC:=ζ [cA k2] Ξ
def Tt:AC:=bO (ξ (ζ [δ cB k4,δ cG k3,au cN 0 cG,cm cO cB cN] (Θ cO ab (bJ 0))) (ξ (aq 1 (ζ [δ du k3,δ dd k4,jN cV du dd,aX dy 302 cV,eT de dy] (Θ de (ζ [cA k2] Ξ) ab))) (aM [δ cP k4,bK cI cP .i64 1,δ k4 cI])))
def Tu:AC:=ζ [kR k2] Ξ
def LA:AC:=ξ (ζ [aB k4 .i64 0] (aq 0 Tt)) Tu
def Tv:AC:=ξ (ζ [δ aY k3,au aU 0 aY,cC aZ aU .i64 0,δ bf aZ,aa bf (δ bk k0),aa bf (lJ bp bk 2 12333),dI bL bf bp,δ bz bL,aa bz (δ bD k3),aa bz (au bH 0 bD),aa bz (fy bU bH .i64 1),aa bz (δ bX bU),ay bX (δ bY k3),ay bX (uZ cj bY .i64 0),ay bX (cC cn cj .u8 48),aa bz (eC bV bX cn),dI cE bz bV] (Θ cE Ts ab)) LA
def f256:AF:=⟨[k0],[.t k2],(ζ [cA k2] (ζ [δ k5 k0,δ k3 k5] (ξ (ζ [δ k6 k0,au k7 0 k6,fy k8 k7 .i64 0,δ k9 k8,ay k9 (δ aF k0),ay k9 (uZ aH aF .i64 0),ay k9 (cC aN aH .u8 45),eC aO k9 aN] (Θ aO (aM [δ aT k0,⟨some aV,.sli .str (.t aT) (some (.c (.i .i64 1))) none none,none,0⟩,δ k3 aV]) ab)) Tv)))⟩
def f302:AF:=⟨[k0],[.t k2],(ζ [cA k2] (ζ [δ k3 k0,iH k4 k3 .u8 48,δ k5 k4,ay k5 (δ k6 k0),ay k5 (yD k7 k6 .u8 57),eC k8 k5 k7,δ k2 k8] Ξ))⟩
def f194:AF:=⟨[k0],[.t k2],(ζ [aB k2 .i64 0] (ζ [δ k8 k0,aX k9 257 k8,δ k7 k9,eb aF k7 0,eb aH k7 1,eb aN k7 2,δ k3 aF,δ k4 aH,δ k5 aN] (ξ (ζ [δ aO k5,eT aT aO] (Θ aT (ζ [aB k2 .i64 1] Ξ) ab)) (ξ (ζ [δ aV k3,aX aY 193 aV,δ aU k4,aX aZ 193 aU,wC bf 3 .i64 0 .i64 0 2 0 1 aY 1 1 aZ,aX bk 48 bf,δ k6 bk] (ζ [δ bp k6,iI bL bp .i64 0] (Θ bL (ζ [δ bz k6,δ k2 bz] Ξ) ab))) (ζ [δ bD k4,lJ bH bD 1 48,δ bU bH,aa bU (δ bX k4),aa bU (uZ bY bX .i64 0),aa bU (cC cj bY .u8 45),dI cn bU cj,δ bV cn,aa bV (δ cE k3),aa bV (aX cB 260 cE),aa bV (δ cG k4),aa bV (aX cN 260 cG),aa bV (ch cO 259 cB cN),aa bV (aX cP 258 cO),aa bV (wD cI cP 1 49),dI du bV cI,gT dd 49 du .i64 1,δ k2 dd] Ξ)))))⟩
def Tw:AC:=bO (ξ (ζ [δ k7 k6,δ k8 k0,au k9 0 k8,cm aF k7 k9] (Θ aF ab (bJ 0))) (ξ (aq 1 (ζ [δ aO k0,δ aT k6,jN aV aO aT,cC aY aV .u8 47] (Θ aY (ξ (ζ [δ aU k5,iH aZ aU .i64 0] (Θ aZ (ζ [oZ k2 0 0,oZ k3 0 0,cA k4] Ξ) ab)) (aM [δ bf k6,δ k5 bf])) ab))) (aM [δ aH k6,bK aN aH .i64 1,δ k6 aN])))
def Tz:AC:=ξ (ζ [δ bk k5,jM bp bk .i64 0] (Θ bp (ζ [oZ k2 0 0,oZ k3 0 0,cA k4] Ξ) ab)) (ξ (.regd [δ bL k0,δ bz k5,μ 3 (Et bD bL bz),δ bH k0,δ bU k5,μ 16 (bK bX bU .i64 1),μ 56 (yE bY bH bX),μ 7 (δ k2 bD),μ 255 (δ k3 bY),μ 511 (kR k4)]) Ξ)
def f257:AF:=⟨[k0],[.t k2,.t k3,.t k4],(ζ [oZ k2 0 0,oZ k3 0 0,cA k4] (ζ [aB k5 .i64 (-1)] (ξ (ζ [aB k6 .i64 0] (aq 0 Tw)) Tz)))⟩
def TA:AC:=bO (ξ (ζ [δ bL k6,δ bz k4,cm bD bL bz] (Θ bD ab (bJ 2))) (ξ (aq 3 (aM [δ bX k5,⟨some bY,.bin .mul (.one .bool) (.c (.i .i64 10)) (.t bX),none,0⟩,δ cj k0,δ cn k6,jN bV cj cn,dS cE bV .u8 48,hK cB .i64 cE,gy cG bY cB,δ k5 cG])) (aM [δ bH k6,bK bU bH .i64 1,δ k6 bU])))
def TB:AC:=bO (ξ (ζ [δ aV k4,fy aY aV .i64 0] (Θ aY ab (bJ 0))) (ξ (aq 1 (ζ [aB k5 .i64 0] (ξ (ζ [δ bf k4,dS bk bf .i64 4,⟨some bp,.mm true [(.c (.i .i64 0)),(.t bk)],none,0⟩,δ k6 bp] (aq 2 TA)) (aM [ω cN 1 k3,φ cO 1 cN,δ cP k5,mW cI 3 .i64 0 1 0 1 cP,oY du 3 1 8 .i64 0 cO cI,ω dd 1 k3,bm 1 dd du])))) (aM [δ aU k4,dS aZ aU .i64 4,δ k4 aZ])))
def TC:AC:=ξ (ζ [δ aO k0,au aT 0 aO,δ k4 aT] (aq 0 TB)) (ζ [bZ cV 2 k3,aX dy 304 cV,bm 2 k2 dy] Ξ)
def f260:AF:=⟨[k0],[.cell k2 true 2],(ζ [nT k2 310] (ζ [nT k3 310] (ξ (ζ [δ k7 k0,uZ k8 k7 .i64 0,cC k9 k8 .u8 45] (Θ k9 (ζ [ω aF 0 k3,Ib 1 aF] (aM [δ aH k0,⟨some aN,.sli .str (.t aH) (some (.c (.i .i64 1))) none none,none,0⟩,δ k0 aN])) ab)) TC)))⟩
def TF:AC:=bO (ξ (ζ [δ k7 k3,fy k8 k7 .i64 0,δ k9 k8,ay k9 (ω aF 1 k1),ay k9 (φ aH 1 aF),ay k9 (δ aN k3),ay k9 (dS aO aN .i64 1),ay k9 (aS aT 1 aH aO),ay k9 (φ aV 1 aT),ay k9 (cC aY aV .i64 0),eC aU k9 aY] (Θ aU ab (bJ 0))) (aq 1 (aM [δ aZ k3,dS bf aZ .i64 1,δ k3 bf])))
def TH:AC:=ζ [bZ bY 2 k1,bm 2 k2 bY] Ξ
def f304:AF:=⟨[k0],[.cell k2 true 2],(ζ [dM k1 310 k0,nT k2 310] (ζ [ω k4 1 k1,φ k5 1 k4,au k6 1 k5,δ k3 k6] (ξ (aq 0 TF) (ζ [ω bk 1 k1,φ bp 1 bk,δ bL k3,B5 bz 1 bp bL,ω bD 1 k1,bm 1 bD bz] (ξ (ζ [δ bH k3,cC bU bH .i64 0] (Θ bU (aM [ω bX 0 k1,yG 1 bX]) ab)) TH)))))⟩
def TJ:AC:=bO (ξ (ζ [ω k9 1 k3,φ aF 1 k9,au aH 1 aF,fy aN aH .i64 0] (Θ aN ab (bJ 0))) (aq 1 (ζ [bZ aT 2 k2,bZ aV 2 k3,ch aY 303 aT aV,δ aO aY,eb aU aO 0,eb aZ aO 1,nT k5 310,nT k6 310,bm 2 k5 aU,bm 2 k6 aZ] (.regd [bZ bf 2 k3,bZ bk 2 k6,μ 1 (bm 2 k2 bf),μ 7 (bm 2 k3 bk)]))))
def f259:AF:=⟨[k0,k1],[.cell k4 true 2],(ζ [dM k2 310 k0,dM k3 310 k1,nT k4 310] (ζ [ω k7 0 k2,yG 1 k7,ω k8 0 k3,yG 1 k8] (ξ (aq 0 TJ) (ζ [bZ bp 2 k2,bm 2 k4 bp] Ξ))))⟩
def f303:AF:=⟨[k0,k1],[.cell k4 true 2,.cell k5 true 2],(ζ [dM k2 310 k0,dM k3 310 k1,nT k4 310,nT k5 310] (ζ [ω aH 1 k2,φ aN 1 aH,ω aO 1 k3,φ aT 1 aO,ch aV 332 aN aT,δ aF aV,eb aY aF 0,eb aU aF 1,δ k6 aY,δ k7 aU] (ζ [ω aZ 0 k2,φ bf 1 aZ,ω bk 0 k3,φ bp 1 bk,H9 bL bf bp,δ bz k6,B3 bD 0 1 bL 1 1 bz,aX bH 304 bD,δ bU k7,wG bX 1 1 bU,nT k8 310,nT k9 310,bm 2 k8 bH,bm 2 k9 bX] (ξ (ζ [ω bY 0 k2,φ cj 1 bY,δ cn cj,ay cn (δ bV k7),ay cn (au cE 1 bV),ay cn (fy cB cE .i64 0),eC cG cn cB] (Θ cG (ζ [ω cN 1 k3,φ cO 1 cN,δ cP k7,ch cI 333 cO cP,wG du 1 1 cI,bm 2 k9 du] (ζ [ω dd 0 k3,φ cV 1 dd] (Θ cV (.regd [bZ dy 2 k8,⟨some de,.hU (.c (.f 335 [] [])) [(.c (.i .i64 1))],none,0⟩,μ 3 (ch ez 334 dy de),μ 7 (bm 2 k8 ez)]) (.regd [bZ eZ 2 k8,⟨some fe,.hU (.c (.f 335 [] [])) [(.c (.i .i64 1))],none,0⟩,μ 3 (ch fa 336 eZ fe),μ 7 (bm 2 k8 fa)])))) ab)) (ξ (.regd [bZ fI 2 k8,bZ fW 2 k9,μ 2 (aX fJ 304 fW),μ 7 (bm 2 k4 fI),μ 15 (bm 2 k5 fJ)]) Ξ)))))⟩
def LB:AC:=bO (ξ (ζ [δ cO k9,δ cP aF,cm cI cO cP] (Θ cI ab (bJ 2))) (aq 3 (ζ [δ du k9,δ dd aF,gy cV du dd,bK dy cV .i64 1,Al de dy .i64 2,δ aH de] (ζ [δ ez k1,δ eZ aH,ch fe 351 ez eZ,wG fa 1 1 fe,aX fI 304 fa,wI fW 1 1 fI,δ fJ k7,ch fR 350 fW fJ,yD fD fR .i64 0] (Θ fD (aM [δ fS aH,δ k9 fS]) (aM [δ fK aH,dS iM fK .i64 1,δ aF iM]))))))
def TK:AC:=ζ [δ jc k6,δ je k8,δ jw k9,aS jx 1 jc je,bm 1 jx jw] (ζ [δ jy k9,fy im jy .i64 0] (Θ im (aM [δ jz k7,δ jA k1,δ jB k9,ch jC 351 jA jB,ch jP 333 jz jC,δ k7 jP]) ab))
def LC:AC:=aM [δ bk k8,dS bp bk .i64 1,δ k8 bp]
def LF:AC:=ξ (ζ [δ aZ k8,iH bf aZ .i64 0] (Θ bf ab (bJ 0))) (ξ (aq 1 (ζ [δ bL k0,δ bz k8,aS bD 1 bL bz,φ bH 1 bD,mW bU 3 .i64 0 1 0 1 bH,δ bX k7,oY bY 3 1 8 .i64 0 bU bX,wG cj 1 1 bY,aX cn 304 cj,wI bV 1 1 cn,δ k7 bV] (ζ [aB k9 .i64 0,aB aF .i64 9999] (ξ (ζ [δ cE k7,δ cB k1,ch cG 350 cE cB,jM cN cG .i64 0] (Θ cN (aM [aB aF .i64 0]) ab)) (ξ (aq 2 LB) TK))))) LC)
def TL:AC:=bO LF
def f332:AF:=⟨[k0,k1],[.t k4,.t k5],(ζ [cR k4,cR k5] (ζ [δ aN k0,au aO 1 aN,wF aT 3 1 8 .i64 0 aO aO,δ k6 aT] (ζ [cR k7] (ξ (ζ [δ aV k0,au aY 1 aV,dS aU aY .i64 1,δ k8 aU] (aq 0 TL)) (ζ [δ kj k6,wG fE 1 1 kj,aX kK 304 fE,wI lV 1 1 kK,δ lW k7,δ k4 lV,δ k5 lW] Ξ)))))⟩
def TM:AC:=bO (ξ (ζ [δ bf k5,iH bk bf .i64 0] (Θ bk ab (bJ 0))) (ξ (aq 1 (ξ (ξ (.regd [δ bz k0,δ bD k5,μ 3 (aS bH 1 bz bD),μ 7 (φ bU 1 bH),δ bX k1,δ bY k5,μ 48 (aS cj 1 bX bY),μ 112 (φ cn 1 cj),μ 255 (cm bV bU cn)]) (Θ bV (ζ [aB k4 .i64 (-1)] Ξ) ab)) (ξ (.regd [δ cE k0,δ cB k5,μ 3 (aS cG 1 cE cB),μ 7 (φ cN 1 cG),δ cO k1,δ cP k5,μ 48 (aS cI 1 cO cP),μ 112 (φ du 1 cI),μ 255 (Am dd cN du)]) (Θ dd (ζ [aB k4 .i64 1] Ξ) ab)))) (aM [δ bp k5,dS bL bp .i64 1,δ k5 bL])))
def TN:AC:=ζ [aB k4 .i64 0] Ξ
def f350:AF:=⟨[k0,k1],[.t k4],(ζ [aB k4 .i64 0] (ξ (ζ [δ k6 k0,au k7 1 k6,δ k8 k1,au k9 1 k8,jZ aF k7 k9] (Θ aF (ξ (ζ [δ aH k0,au aN 1 aH,δ aO k1,au aT 1 aO,cm aV aN aT] (Θ aV (ζ [aB k4 .i64 (-1)] Ξ) ab)) (ζ [aB k4 .i64 1] Ξ)) ab)) (ξ (ζ [δ aY k0,au aU 1 aY,dS aZ aU .i64 1,δ k5 aZ] (aq 0 TM)) TN)))⟩
def f351:AF:=⟨[k0,k1],[.t k4],(ζ [cR k4] (ζ [δ k5 k0,wG k6 1 1 k5,δ k7 k1,mW k8 3 .i64 0 1 0 1 k7,wG k9 1 1 k8,ch aF 362 k6 k9,wI aH 1 1 aF,δ k4 aH] Ξ))⟩
def TP:AC:=ξ (.regd [δ cP k5,δ cI k6,δ du k8,μ 6 (gy dd cI du),μ 15 (aS cV 1 cP dd),μ 31 (φ dy 1 cV),ω de 1 k2,μ 64 (φ ez 1 de),δ eZ k6,μ 448 (aS fe 1 ez eZ),μ 960 (φ fa 1 fe),ω fI 1 k3,μ 2048 (φ fW 1 fI),δ fJ k8,μ 14336 (ch fR 352 fW fJ),μ 32704 (B6 fD fa fR),μ 65535 (gy fS dy fD),δ fK k7,μ 262143 (gy iM fS fK),μ 524287 (δ k9 iM)]) (ζ [δ jc k5,δ je k6,δ jw k8,gy jx je jw,δ jy k9,Er im jy .i64 10000,aS jz 1 jc jx,bm 1 jz im] (aM [δ jA k9,Al jB jA .i64 10000,δ k7 jB]))
def TQ:AC:=bO (ξ (ζ [δ bU k8,ω bX 1 k3,φ bY 1 bX,au cj 1 bY,cm cn bU cj,δ bV cn,aa bV (δ cE k7),aa bV (fy cB cE .i64 0),dI cG bV cB] (Θ cG ab (bJ 2))) (ξ (aq 3 TP) (aM [δ cN k8,bK cO cN .i64 1,δ k8 cO])))
def TR:AC:=bO (ξ (ζ [δ bf k6,ω bk 1 k2,φ bp 1 bk,au bL 1 bp,cm bz bf bL] (Θ bz ab (bJ 0))) (ξ (aq 1 (ζ [aB k7 .i64 0] (ζ [aB k8 .i64 0] (aq 2 TQ)))) (aM [δ bD k6,bK bH bD .i64 1,δ k6 bH])))
def f362:AF:=⟨[k0,k1],[.cell k4 true 2],(ζ [dM k2 310 k0,dM k3 310 k1,nT k4 310] (ζ [ω aF 1 k2,φ aH 1 aF,au aN 1 aH,ω aO 1 k3,φ aT 1 aO,au aV 1 aT,gy aY aN aV,bK aU aY .i64 1,wF aZ 3 1 8 .i64 0 aU aU,δ k5 aZ] (ξ (ζ [aB k6 .i64 0] (aq 0 TR)) (ζ [ω jC 0 k2,φ jP 1 jC,ω kj 0 k3,φ fE 1 kj,H9 kK jP fE,δ lV k5,B3 lW 0 1 kK 1 1 lV,aX lf 304 lW,bm 2 k4 lf] Ξ))))⟩
def f352:AF:=⟨[k0,k1],[.t k4],(ζ [aB k4 .i64 0] (ξ (ζ [δ k5 k1,δ k6 k0,au k7 1 k6,cm k8 k5 k7] (Θ k8 (ζ [δ k9 k0,δ aF k1,aS aH 1 k9 aF,φ aN 1 aH,δ k4 aN] Ξ) ab)) (ζ [aB k4 .i64 0] Ξ)))⟩
def TS:AC:=aM [δ cj k5,δ cn k8,mW bV 3 .i64 0 1 0 1 cn,oY cE 3 1 8 .i64 0 cj bV,δ k5 cE]
def TT:AC:=aM [δ aO k7,bK aT aO .i64 1,δ k7 aT]
def TU:AC:=ξ (ζ [δ k9 k7,δ aF k0,au aH 1 aF,cm aN k9 aH] (Θ aN ab (bJ 0))) (ξ (aq 1 (ξ (.regd [δ aV k0,δ aY k7,μ 3 (aS aU 1 aV aY),μ 7 (φ aZ 1 aU),δ bf k1,δ bk k7,μ 48 (ch bp 352 bf bk),μ 127 (kz bL aZ bp),δ bz k6,μ 511 (kz bD bL bz),μ 1023 (δ k8 bD)]) (ζ [aB k6 .i64 0] (ξ (ζ [δ bH k8,jM bU bH .i64 0] (Θ bU (ζ [δ bX k8,bK bY bX .i64 10000,δ k8 bY] (aM [aB k6 .i64 1])) ab)) TS)))) TT)
def TV:AC:=bO TU
def f333:AF:=⟨[k0,k1],[.t k4],(ζ [cR k4] (ζ [cR k5] (ζ [aB k6 .i64 0] (ξ (ζ [aB k7 .i64 0] (aq 0 TV)) (ζ [δ cB k5,wG cG 1 1 cB,aX cN 304 cG,wI cO 1 1 cN,δ k4 cO] Ξ)))))⟩
def f335:AF:=⟨[k0],[.cell k2 true 2],(ζ [nT k2 310] (ζ [δ k5 k0,jM k6 k5 .i64 0,wG k7 0 1 k6,nT k3 310,bm 2 k3 k7] (ξ (aq 0 (bO (ξ (ζ [δ k8 k0,iI k9 k8 .i64 0] (Θ k9 ab (bJ 0))) (aq 1 (ζ [δ aF k0,Er aH aF .i64 10000,δ k4 aH] (ξ (ζ [δ aN k4,jM aO aN .i64 0] (Θ aO (aM [δ aT k4,⟨some aV,.un .neg (.t aT),none,0⟩,δ k4 aV]) ab)) (ζ [ω aY 1 k3,φ aU 1 aY,δ aZ k4,mW bf 3 .i64 0 1 0 1 aZ,oY bk 3 1 8 .i64 0 aU bf,ω bp 1 k3,bm 1 bp bk] (aM [δ bL k0,Al bz bL .i64 10000,δ k0 bz])))))))) (ζ [bZ bD 2 k3,bm 2 k2 bD] Ξ))))⟩
def f334:AF:=⟨[k0,k1],[.cell k4 true 2],(ζ [dM k2 310 k0,dM k3 310 k1,nT k4 310] (ξ (ζ [ω k5 0 k2,φ k6 1 k5,ω k7 0 k3,φ k8 1 k7,R2 k9 k6 k8] (Θ k9 (ξ (.regd [ω aF 0 k2,μ 1 (φ aH 1 aF),ω aN 1 k2,μ 4 (φ aO 1 aN),ω aT 1 k3,μ 16 (φ aV 1 aT),μ 60 (ch aY 353 aO aV),μ 127 (B3 aU 0 1 aH 1 1 aY),μ 255 (aX aZ 304 aU),μ 511 (bm 2 k4 aZ)]) Ξ) ab)) (ξ (ζ [ω bf 1 k2,φ bk 1 bf,ω bp 1 k3,φ bL 1 bp,ch bz 350 bk bL,iH bD bz .i64 0] (Θ bD (ξ (.regd [ω bH 0 k2,μ 1 (φ bU 1 bH),ω bX 1 k2,μ 4 (φ bY 1 bX),ω cj 1 k3,μ 16 (φ cn 1 cj),μ 60 (ch bV 333 bY cn),μ 127 (B3 cE 0 1 bU 1 1 bV),μ 255 (aX cB 304 cE),μ 511 (bm 2 k4 cB)]) Ξ) ab)) (ξ (.regd [ω cG 0 k3,μ 1 (φ cN 1 cG),ω cO 1 k3,μ 4 (φ cP 1 cO),ω cI 1 k2,μ 16 (φ du 1 cI),μ 60 (ch dd 333 cP du),μ 127 (B3 cV 0 1 cN 1 1 dd),μ 255 (aX dy 304 cV),μ 511 (bm 2 k4 dy)]) Ξ))))⟩
def f353:AF:=⟨[k0,k1],[.t k4],(ζ [cR k4] (ζ [cR k5] (ζ [aB k6 .i64 0] (ξ (ζ [aB k7 .i64 0] (aq 0 (bO (ξ (ζ [δ k9 k7,δ aF k0,au aH 1 aF,cm aN k9 aH,δ aO aN,aa aO (δ aT k7),aa aO (δ aV k1),aa aO (au aY 1 aV),aa aO (cm aU aT aY),dI aZ aO aU,δ bf aZ,aa bf (δ bk k6),aa bf (fy bp bk .i64 0),dI bL bf bp] (Θ bL ab (bJ 0))) (ξ (aq 1 (ζ [δ bH k0,δ bU k7,ch bX 352 bH bU,δ bY k1,δ cj k7,ch cn 352 bY cj,gy bV bX cn,δ cE k6,gy cB bV cE,δ k8 cB] (ζ [δ cG k5,δ cN k8,Er cO cN .i64 10000,mW cP 3 .i64 0 1 0 1 cO,oY cI 3 1 8 .i64 0 cG cP,δ k5 cI] (aM [δ du k8,Al dd du .i64 10000,δ k6 dd])))) (aM [δ bz k7,bK bD bz .i64 1,δ k7 bD])))))) (ζ [δ cV k5,δ k4 cV] Ξ)))))⟩
def f336:AF:=⟨[k0,k1],[.cell k4 true 2],(ζ [dM k2 310 k0,dM k3 310 k1,nT k4 310] (ξ (.regd [bZ k5 2 k2,bZ k6 2 k3,μ 2 (aX k7 354 k6),μ 7 (ch k8 334 k5 k7),μ 15 (bm 2 k4 k8)]) Ξ))⟩
def f354:AF:=⟨[k0],[.cell k2 true 2],(ζ [dM k1 310 k0,nT k2 310] (ζ [ω k3 0 k1,φ k4 1 k3,eT k5 k4,ω k6 1 k1,φ k7 1 k6,B3 k8 0 1 k5 1 1 k7,aX k9 304 k8,bm 2 k2 k9] Ξ))⟩
def TW:AC:=bO (ξ (ζ [δ bU k6,jM bX bU .i64 4] (Θ bX ab (bJ 2))) (ξ (aq 3 (ζ [δ cn k3,δ bV k5,Er cE bV .i64 10,Lq cB .i64 48 cE,hK cG .u8 cB,mW cN 5 .u8 0 1 0 1 cG,oY cO 5 1 1 .u8 0 cn cN,δ k3 cO] (aM [δ cP k5,Al cI cP .i64 10,δ k5 cI]))) (aM [δ bY k6,bK cj bY .i64 1,δ k6 cj])))
def TX:AC:=bO (ξ (ζ [δ aT k4,ω aV 1 k1,φ aY 1 aV,au aU 1 aY,cm aZ aT aU] (Θ aZ ab (bJ 0))) (ξ (aq 1 (ζ [ω bp 1 k1,φ bL 1 bp,δ bz k4,aS bD 1 bL bz,φ bH 1 bD,δ k5 bH] (ζ [aB k6 .i64 0] (aq 2 TW)))) (aM [δ bf k4,bK bk bf .i64 1,δ k4 bk])))
def TY:AC:=bO (ξ (ζ [δ cV k3,δ dy k7,dS de dy .i64 1,aS ez 1 cV de,φ eZ 1 ez,cC fe eZ .u8 48] (Θ fe ab (bJ 4))) (aq 5 (aM [δ fa k7,dS fI fa .i64 1,δ k7 fI])))
def TZ:AC:=bO (ξ (ζ [δ jc k9,iH je jc .i64 0] (Θ je ab (bJ 6))) (ξ (aq 7 (aM [δ jy k8,δ im k3,δ jz k9,aS jA 1 im jz,φ jB 1 jA,mW jC 5 .u8 0 1 0 1 jB,oY jP 5 1 1 .u8 0 jy jC,δ k8 jP])) (aM [δ jw k9,dS jx jw .i64 1,δ k9 jx])))
def f258:AF:=⟨[k0],[.t k2],(ζ [dM k1 310 k0,oZ k2 0 0] (ξ (ζ [ω aF 1 k1,φ aH 1 aF,au aN 1 aH,cC aO aN .i64 0] (Θ aO (ζ [oZ k2 1 48] Ξ) ab)) (ζ [cR k3] (ξ (ζ [aB k4 .i64 0] (aq 0 TX)) (ζ [δ du k3,au dd 1 du,δ k7 dd] (ξ (aq 4 TY) (ζ [cR k8] (ξ (ζ [ω fW 0 k1,φ fJ 1 fW] (Θ fJ (aM [δ fR k8,⟨some fD,.bsl 5 [.i .u8 0] 1 [(0,1,(.c (.i .u8 45)))],none,0⟩,oY fS 5 1 1 .u8 0 fR fD,δ k8 fS]) ab)) (ξ (ζ [δ fK k7,dS iM fK .i64 1,δ k9 iM] (aq 6 TZ)) (ζ [δ kj k8,⟨some fE,.cv .zA (.t kj),none,0⟩,δ k2 fE] Ξ))))))))))⟩
def f50:AF:=⟨[k0],[.t k2],(ζ [cA k2] (ζ [δ k3 k0,aX k4 130 k3,δ k2 k4] Ξ))⟩
def LG:AC:=Θ bp (ζ [cA k2] Ξ) ab
def LH:AC:=aM [δ aY k3,bK aU aY .i64 1,δ k3 aU]
def LI:AC:=ξ (ζ [δ aN k3,δ aO k0,au aT 0 aO,cm aV aN aT] (Θ aV ab (bJ 0))) (ξ (aq 1 (ζ [δ aZ k0,δ bf k3,jN bk aZ bf] (aq 2 (ξ (ζ [cC bL bk .u8 32,δ bp bL] (Θ bp ab (ζ [cC bz bk .u8 10,δ bp bz] (Θ bp ab (ζ [cC bD bk .u8 40,δ bp bD] (Θ bp ab (ζ [cC bH bk .u8 41,δ bp bH] (Θ bp ab (ζ [cC bU bk .u8 123,δ bp bU] (Θ bp ab (aM [cC bX bk .u8 125,δ bp bX]))))))))))) LG)))) LH)
def T4:AC:=bO LI
def Ih:AC:=ζ [kR k2] Ξ
def f130:AF:=⟨[k0],[.t k2],(ζ [cA k2] (ξ (ζ [δ k4 k0,au k5 0 k4,cC k6 k5 .i64 0,δ k7 k6,aa k7 (δ k8 k0),aa k7 (au k9 0 k8),aa k7 (fy aF k9 .i64 200),dI aH k7 aF] (Θ aH (ζ [cA k2] Ξ) ab)) (ξ (ζ [aB k3 .i64 0] (aq 0 T4)) Ih)))⟩
def T5:AC:=ζ [aB k2 .i64 5] Ξ
def T6:AC:=bO (ξ (ζ [δ bL k5,ω bz 3 k1,φ bD 1 bz,au bH 1 bD,cm bU bL bH] (Θ bU ab (bJ 0))) (ξ (aq 1 (ξ (ζ [ω cj 3 k1,φ cn 1 cj,δ bV k5,aS cE 2 cn bV,ω cB 0 cE,φ cG 1 cB,aX cN 50 cG,eT cO cN,gT cP 49 cO .i64 6,δ k6 cP] (ζ [δ cI k6,iI du cI .i64 0] (Θ du (ζ [δ dd k6,δ k2 dd] Ξ) ab))) (ξ (.regd [ω cV 3 k1,μ 1 (φ dy 1 cV),δ de k5,μ 7 (B5 ez 2 dy de),ω eZ 3 k1,μ 16 (φ fe 1 eZ),δ fa k5,μ 112 (aS fI 2 fe fa),μ 240 (ω fW 0 fI),μ 496 (φ fJ 1 fW),μ 1023 (ch fR 117 ez fJ),μ 2047 (iH fD fR .i64 0)]) (Θ fD (ζ [aB k2 .i64 7] Ξ) ab)))) (aM [δ bX k5,bK bY bX .i64 1,δ k5 bY])))
def T7:AC:=ζ [aB k2 .i64 0] Ξ
def LJ:AC:=ξ (ζ [aB k5 .i64 0] (aq 0 T6)) T7
def f112:AF:=⟨[k0],[.t k2],(ζ [dM k1 87 k0,aB k2 .i64 0] (ζ [aB k3 .i64 0,aB k4 .i64 0] (ξ (ζ [ω k7 0 k1,φ k8 1 k7,aX k9 66 k8] (Θ k9 (aM [aB k3 .i64 1,aB k4 .i64 12]) ab)) (ξ (ζ [ω aF 3 k1,φ aH 1 aF,au aN 1 aH,δ aO k3,cm aT aN aO,δ aV aT,aa aV (ω aY 3 k1),aa aV (φ aU 1 aY),aa aV (au aZ 1 aU),aa aV (δ bf k4),aa aV (Am bk aZ bf),dI bp aV bk] (Θ bp T5 ab)) LJ))))⟩
def T8:AC:=bO (ξ (ζ [δ k6 k5,δ k7 k0,au k8 1 k7,cm k9 k6 k8] (Θ k9 ab (bJ 0))) (ξ (aq 1 (ζ [δ aN k0,δ aO k5,aS aT 2 aN aO,ω aV 0 aT,φ aY 1 aV,δ aU k1,tz aZ aY aU] (Θ aZ (ζ [δ bf k5,δ k4 bf] Ξ) ab))) (aM [δ aF k5,bK aH aF .i64 1,δ k5 aH])))
def T9:AC:=ζ [aB k4 .i64 (-1)] Ξ
def f117:AF:=⟨[k0,k1],[.t k4],(ζ [aB k4 .i64 0] (ξ (ζ [aB k5 .i64 0] (aq 0 T8)) T9))⟩
def Ua:AC:=Θ de (aM [ω fa 1 k1,φ fI 1 fa,wD fW fI 0 0,δ k3 fW]) (ζ [cC fR k8 .i64 19,δ fJ fR] (Θ fJ (aM [ω fD 1 k1,φ fS 1 fD,lJ fK fS 0 0,δ k3 fK]) ab))
def Ub:AC:=Θ bV (aM [ω cN 1 k1,φ cO 1 cN,lJ cP cO 3 7630409,δ cI cP,aa cI (ω du 1 k1),aa cI (φ dd 1 du),aa cI (lJ cV dd 4 1818322258),dI dy cI cV,δ k3 dy]) (ξ (ζ [cC ez k8 .i64 3,δ de ez] (Θ de ab (ζ [cC eZ k8 .i64 4,δ de eZ] (Θ de ab (aM [cC fe k8 .i64 10,δ de fe]))))) Ua)
def Ii:AC:=ζ [δ iM k3,eT jc iM,gT je 49 jc .i64 13,δ k2 je] Ξ
def f113:AF:=⟨[k0],[.t k2],(ζ [dM k1 87 k0,aB k2 .i64 0] (ζ [ω k4 1 k1,φ k5 1 k4,lJ k6 k5 4 1819242306,δ k3 k6] (ξ (ζ [ω k7 0 k1,φ k8 1 k7] (aq 0 (ζ [cC aF k8 .i64 2,δ k9 aF] (Θ k9 (aM [ω aH 1 k1,φ aN 1 aH,lJ aO aN 3 7630409,δ aT aO,ay aT (ω aV 2 k1),ay aT (φ aY 1 aV),ay aT (aX aU 193 aY),ay aT (cC aZ aU .i64 0),eC bf aT aZ,δ bk bf,aa bk (ω bp 1 k1),aa bk (φ bL 1 bp),aa bk (lJ bz bL 4 1818322258),aa bk (δ bD bz),ay bD (ω bH 2 k1),ay bD (φ bU 1 bH),ay bD (aX bX 194 bU),ay bD (cC bY bX .i64 0),aa bk (eC cj bD bY),dI cn bk cj,δ k3 cn]) (ξ (ζ [cC cE k8 .i64 12,δ bV cE] (Θ bV ab (ζ [cC cB k8 .i64 13,δ bV cB] (Θ bV ab (aM [cC cG k8 .i64 14,δ bV cG]))))) Ub))))) Ii)))⟩
def Uc:AC:=bO (ξ (ζ [δ aY k6,δ aU k0,δ aZ k4,aS bf 5 aU aZ,ω bk 4 bf,φ bp 1 bk,au bL 1 bp,cm bz aY bL] (Θ bz ab (bJ 2))) (ξ (aq 3 (aM [δ bU k5,δ bX k3,δ bY k0,δ cj k4,aS cn 5 bY cj,ω bV 4 cn,φ cE 1 bV,δ cB k6,aS cG 1 cE cB,φ cN 1 cG,aS cO 1 bX cN,φ cP 1 cO,⟨some cI,.mm true [(.t bU),(.t cP)],none,0⟩,δ k5 cI])) (aM [δ bD k6,bK bH bD .i64 1,δ k6 bH])))
def Ud:AC:=bO (ξ (ζ [δ aF k4,δ aH k0,au aN 1 aH,cm aO aF aN] (Θ aO ab (bJ 0))) (ξ (aq 1 (ζ [aB k5 .i64 0] (ξ (ζ [aB k6 .i64 0] (aq 2 Uc)) (aM [δ du k3,δ dd k4,δ cV k5,bK dy cV .i64 1,aS de 1 du dd,bm 1 de dy])))) (aM [δ aT k4,bK aV aT .i64 1,δ k4 aV])))
def f114:AF:=⟨[k0],[.t k2],(ζ [cR k2] (ζ [δ k7 k0,au k8 1 k7,wF k9 3 1 8 .i64 0 k8 k8,δ k3 k9] (ξ (ζ [aB k4 .i64 0] (aq 0 Ud)) (ζ [δ ez k3,δ k2 ez] Ξ))))⟩
def f68:AF:=⟨[k0],[.cell k2 true 5],(ζ [rQ k2 87 .i64 0 0 0 0 0] (ζ [δ k3 k0,δ k4 k0,au k5 1 k4,dS k6 k5 .i64 1,aS k7 5 k3 k6,bZ k8 5 k7,bm 5 k2 k8] Ξ))⟩
def adM:AC:=bO (ξ (ζ [δ k5 k4,δ k6 k0,aX k7 68 k6,wI k8 4 1 k7,au k9 1 k8,cm aF k5 k9] (Θ aF ab (bJ 0))) (ξ (aq 1 (aM [δ aO k3,δ aT k0,δ aV k0,aX aY 68 aV,wI aU 4 1 aY,δ aZ k4,aS bf 1 aU aZ,φ bk 1 bf,ch bp 70 aT bk,yF bL 23 1 0 1 bp,wE bz 23 1 24 aO bL,δ k3 bz])) (aM [δ aH k4,bK aN aH .i64 1,δ k4 aN])))
def f136:AF:=⟨[k0],[.t k2],(ζ [cR k2] (ζ [cR k3] (ξ (ζ [aB k4 .i64 0] (aq 0 adM)) (ζ [δ bD k3,δ k2 bD] Ξ))))⟩
def Ue:AC:=bO (ξ (ζ [δ bU k8,δ bX k6,δ bY k7,aS cj 5 bX bY,ω cn 4 cj,φ bV 1 cn,au cE 1 bV,cm cB bU cE] (Θ cB ab (bJ 2))) (ξ (aq 3 (.regd [δ cO k6,δ cP k7,μ 3 (aS cI 5 cO cP),μ 7 (ω du 4 cI),μ 15 (φ dd 1 du),δ cV k8,δ dy k6,δ de k7,μ 192 (aS ez 5 dy de),μ 448 (ω eZ 4 ez),μ 960 (φ fe 1 eZ),δ fa k8,μ 4032 (aS fI 1 fe fa),μ 8128 (φ fW 1 fI),δ fJ k5,μ 32704 (kz fR fW fJ),μ 65535 (aS fD 1 dd cV),μ 131071 (bm 1 fD fR)])) (aM [δ cG k8,bK cN cG .i64 1,δ k8 cN])))
def Uf:AC:=bO (ξ (ζ [δ bk k7,δ bp k6,au bL 1 bp,cm bz bk bL] (Θ bz ab (bJ 0))) (ξ (aq 1 (ζ [aB k8 .i64 0] (aq 2 Ue))) (aM [δ bD k7,bK bH bD .i64 1,δ k7 bH])))
def f70:AF:=⟨[k0,k1],[.t k4],(ζ [cR k4] (ζ [δ k9 k0,aX aF 107 k9,δ aH k1,aS aN 1 aF aH,φ aO 1 aN,δ k5 aO] (ζ [δ aT k0,δ aV k5,δ aY k1,bK aU aY .i64 1,⟨some aZ,.sli (.sl 5) (.t aT) (some (.t aV)) (some (.t aU)) none,none,0⟩,aX bf 131 aZ,δ k6 bf] (ξ (ζ [aB k7 .i64 0] (aq 0 Uf)) (ζ [δ fS k6,δ k4 fS] Ξ)))))⟩
def Ug:AC:=bO (ξ (ζ [δ k6 k4,δ k7 k0,au k8 1 k7,cm k9 k6 k8] (Θ k9 ab (bJ 0))) (ξ (aq 1 (ζ [δ aN k0,δ aO k4,aS aT 5 aN aO,bZ aV 5 aT,rQ k5 87 .i64 0 0 0 0 0,bm 5 k5 aV] (ζ [ω aY 3 k5,φ aU 1 aY,H8 aZ 64 2 32 0 0 0 0 aU,ω bf 3 k5,bm 1 bf aZ] (ζ [ω bk 4 k5,φ bp 1 bk,⟨some bL,.app 3 1 8 [.i .i64 0] false (.c .ns) (.t bp),none,0⟩,ω bz 4 k5,bm 1 bz bL] (aM [δ bD k3,bZ bH 5 k5,B2 bU 87 .i64 0 0 0 0 0 1 0 5 bH,B1 bX 87 5 88 .i64 0 0 0 0 0 bD bU,δ k3 bX]))))) (aM [δ aF k4,bK aH aF .i64 1,δ k4 aH])))
def f131:AF:=⟨[k0],[.t k2],(ζ [cR k2] (ζ [cR k3] (ξ (ζ [aB k4 .i64 0] (aq 0 Ug)) (ζ [δ bY k3,δ k2 bY] Ξ))))⟩
def f171:AF:=⟨[k0,k1],[.t k4],(ζ [cA k4] (ζ [δ k5 k0,δ k6 k1,⟨some k7,.hU (.c (.f 229 [] [])) [(.t k5),(.t k6),(.c (.f 230 [] []))],none,0⟩,δ k4 k7] Ξ))⟩
def adN:AC:=bO (ζ [cm aZ aU aY] (ξ (Θ aZ ab (bJ 0)) (ξ (aq 1 (ζ [δ bf aU,aS bk 5 aV aU,bZ bp 5 bk,rQ k8 87 .i64 0 0 0 0 0,δ k7 bf,bm 5 k8 bp] (ζ [δ bL k1,δ bz k7,aS bD 5 bL bz,bZ bH 5 bD,rQ k9 87 .i64 0 0 0 0 0,bm 5 k9 bH] (ζ [δ bU k2,bZ bX 5 k8,bZ bY 5 k9,Ia cj bU bX bY,eT cn cj] (Θ cn (ζ [cA k6] Ξ) ab))))) (aM [bK bV aU .i64 1,δ aU bV]))))
def adO:AC:=ζ [kR k6] Ξ
def f229:AF:=⟨[k0,k1,k2],[.t k6],(ζ [cA k6] (ξ (ζ [δ aF k0,au aH 1 aF,δ aN k1,au aO 1 aN,jZ aT aH aO] (Θ aT (ζ [cA k6] Ξ) ab)) (ξ (ζ [δ aV k0,au aY 1 aV,aB aU .i64 0] (aq 0 adN)) adO)))⟩
def f230:AF:=⟨[k0,k1],[.t k4],(ζ [dM k2 87 k0,dM k3 87 k1,cA k4] (ζ [ω k5 0 k2,φ k6 1 k5,ω k7 0 k3,φ k8 1 k7,uY k9 k6 k8,δ aF k9,ay aF (ω aH 1 k2),ay aF (φ aN 1 aH),ay aF (ω aO 1 k3),ay aF (φ aT 1 aO),ay aF (tz aV aN aT),eC aY aF aV,δ aU aY,ay aU (ω aZ 2 k2),ay aU (φ bf 1 aZ),ay aU (ω bk 2 k3),ay aU (φ bp 1 bk),ay aU (tz bL bf bp),eC bz aU bL,δ bD bz,ay bD (ω bH 3 k2),ay bD (φ bU 1 bH),ay bD (ω bX 3 k3),ay bD (φ bY 1 bX),ay bD (ch cj 279 bU bY),eC cn bD cj,δ bV cn,ay bV (ω cE 4 k2),ay bV (φ cB 1 cE),ay bV (ω cG 4 k3),ay bV (φ cN 1 cG),ay bV (ch cO 280 cB cN),eC cP bV cO,δ k4 cP] Ξ))⟩
def adP:AC:=bO (ζ [cm aT aO aN] (ξ (Θ aT ab (bJ 0)) (ξ (aq 1 (ζ [δ aV aO,δ k5 aV] (ξ (.regd [δ aY k0,δ aU k5,μ 3 (aS aZ 2 aY aU),μ 7 (bZ bf 2 aZ),δ bk k1,δ bp k5,μ 48 (aS bL 2 bk bp),μ 112 (bZ bz 2 bL),⟨some bD,.bin .neq (.agg [(0,.str),(1,.str)]) (.t bf) (.t bz),none,255⟩]) (Θ bD (ζ [cA k4] Ξ) ab)))) (aM [bK bH aO .i64 1,δ aO bH]))))
def adQ:AC:=ζ [kR k4] Ξ
def f279:AF:=⟨[k0,k1],[.t k4],(ζ [cA k4] (ξ (ζ [δ k6 k0,au k7 1 k6,δ k8 k1,au k9 1 k8,jZ aF k7 k9] (Θ aF (ζ [cA k4] Ξ) ab)) (ξ (ζ [δ aH k0,au aN 1 aH,aB aO .i64 0] (aq 0 adP)) adQ)))⟩
def adR:AC:=bO (ζ [cm aT aO aN] (ξ (Θ aT ab (bJ 0)) (ξ (aq 1 (ζ [δ aV aO,δ k5 aV] (ξ (.regd [δ aY k0,δ aU k5,μ 3 (aS aZ 1 aY aU),μ 7 (φ bf 1 aZ),δ bk k1,δ bp k5,μ 48 (aS bL 1 bk bp),μ 112 (φ bz 1 bL),μ 255 (jZ bD bf bz)]) (Θ bD (ζ [cA k4] Ξ) ab)))) (aM [bK bH aO .i64 1,δ aO bH]))))
def adS:AC:=ζ [kR k4] Ξ
def f280:AF:=⟨[k0,k1],[.t k4],(ζ [cA k4] (ξ (ζ [δ k6 k0,au k7 1 k6,δ k8 k1,au k9 1 k8,jZ aF k7 k9] (Θ aF (ζ [cA k4] Ξ) ab)) (ξ (ζ [δ aH k0,au aN 1 aH,aB aO .i64 0] (aq 0 adR)) adS)))⟩
def LK:AC:=aM [δ jx k7,δ jy aH,yF im 48 1 0 1 jy,wE jz 48 1 24 jx im,δ jA k8,δ jB aH,aX jC 17 jB,yF jP 48 1 0 1 jC,wE kj 48 1 24 jA jP,δ k7 jz,δ k8 kj]
def Uh:AC:=aM [bK fE cB .i64 1,δ cB fE]
def Ui:AC:=ζ [cm cG cB cE] (ξ (Θ cG ab (bJ 0)) (ξ (aq 1 (ζ [δ cN cB,aS cO 1 bV cB,φ cP 1 cO,δ aF cN,δ aH cP] (ξ (ζ [δ cI aH,au du 1 cI,fy dd du .i64 4,δ cV dd,aa cV (δ dy aH),aa cV (aX de 16 dy),aa cV (eT ez de),dI eZ cV ez] (Θ eZ (ζ [kR k6] Ξ) ab)) (ξ (ζ [δ fe aF,δ fa k2,au fI 1 fa,dS fW fI .i64 1,uY fJ fe fW,δ fR fJ,ay fR (δ fD aH),ay fR (au fS 1 fD),ay fR (fy fK fS .i64 0),eC iM fR fK] (Θ iM (ζ [δ jc aH,B9 je 1 jc .i64 0,φ jw 1 je,δ k9 jw] (bJ 0)) ab)) LK)))) Uh))
def Uj:AC:=bO Ui
def f4:AF:=⟨[k0,k1,k2],[.t k6],(ζ [cA k6] (ξ (ζ [⟨some aZ,.hU (.c (.f 5 [] [])) [],none,0⟩,eT bf aZ,δ bk bf,aa bk (δ bp k1),aa bk (au bL 1 bp),aa bk (fy bz bL .i64 14),dI bD bk bz,δ bH bD,aa bH (δ bU k2),aa bH (au bX 1 bU),aa bH (fy bY bX .i64 4),dI cj bH bY] (Θ cj (ζ [⟨some cn,.hU (.c (.f 5 [] [])) [],none,0⟩,δ k6 cn] Ξ) ab)) (ζ [cR k7,cR k8] (ζ [cR k9] (ξ (ζ [δ bV k2,au cE 1 bV,aB cB .i64 0] (aq 0 Uj)) (ζ [δ lV k0,δ lW k1,aX lf 19 lW,δ oq k8,δ ot k9,aX ou 9 ot,H6 ov 18 lV lf oq ou,δ kK ov,eb ox kK 0,eb lX kK 1,δ aN ox,δ aO lX] (ξ (ζ [δ oU k0,δ qD k1,δ sk k7,δ sn k9,H6 lh 20 oU qD sk sn,δ nz lh,eb oV nz 0,eb so nz 1,δ aT oV,δ aV so] (ζ [δ sr aN,δ sx aO,δ sy aT,δ ri aV,H6 uj 15 sr sx sy ri,eT oy uj] (Θ oy (ζ [cA k6] Ξ) ab))) (ζ [δ wq k9,aX wu 9 wq,δ wv k0,ch wx 21 wu wv,δ vJ wx,eb wy vJ 0,eb wz vJ 1,δ aN wy,δ aO wz] (ζ [δ uM k9,δ pP k0,ch uN 22 uM pP,δ tn uN,eb uO tn 0,eb uP tn 1,δ aY uO,δ aU uP] (ζ [δ uQ aN,δ uR aO,δ uS aY,δ uT aU,H6 uU 15 uQ uR uS uT,δ k6 uU] Ξ))))))))))⟩
def Uk:AC:=bO (ξ (ζ [δ k4 k3,δ k5 k0,au k6 1 k5,cm k7 k4 k6] (Θ k7 ab (bJ 0))) (ξ (aq 1 (ζ [δ aF k0,δ aH k3,aS aN 1 aF aH,φ aO 1 aN,aX aT 6 aO,eT aV aT] (Θ aV (ζ [cA k2] Ξ) ab))) (aM [δ k8 k3,bK k9 k8 .i64 1,δ k3 k9])))
def Ul:AC:=ζ [δ aY k0,au aU 1 aY,yD aZ aU .i64 20,δ k2 aZ] Ξ
def f16:AF:=⟨[k0],[.t k2],(ζ [cA k2] (ξ (ζ [aB k3 .i64 0] (aq 0 Uk)) Ul))⟩
def Um:AC:=bO (ξ (ζ [δ k5 k4,δ k6 k0,au k7 1 k6,cm k8 k5 k7] (Θ k8 ab (bJ 0))) (ξ (aq 1 (aM [δ aH k3,δ aN k0,δ aO k4,aS aT 1 aN aO,φ aV 1 aT,aX aY 9 aV,yF aU 23 1 0 1 aY,wE aZ 23 1 24 aH aU,δ k3 aZ])) (aM [δ k9 k4,bK aF k9 .i64 1,δ k4 aF])))
def Un:AC:=ζ [δ bf k3,δ k2 bf] Ξ
def f17:AF:=⟨[k0],[.t k2],(ζ [cR k2] (ζ [cR k3] (ξ (ζ [aB k4 .i64 0] (aq 0 Um)) Un)))⟩
def f18:AF:=⟨[k0,k1,k2,k3],[.t k8,.t k9],(ζ [cR k8,aB k9 .i64 0] (ξ (ζ [δ aO k0,aX aT 56 aO,eT aV aT] (Θ aV (ζ [cR k8,aB k9 .i64 11] Ξ) ab)) (ζ [δ aY k2,aX aU 57 aY,δ aF aU] (ξ (ζ [δ aZ k3,aX bf 36 aZ,δ bk aF,Lp bp 58 bk 36,aX bL 41 bp,wC bz 29 .i64 0 .i64 0 2 0 1 bf 1 1 bL,aX bD 41 bz,δ aH bD] (ζ [δ bH aH,iI bU bH .i64 0] (Θ bU (ζ [δ bX aH,cR k8,δ k9 bX] Ξ) ab))) (ξ (ζ [δ bY k2,Lp cj 59 bY 60] (Θ cj (ζ [cR k8,aB k9 .i64 2] Ξ) ab)) (ξ (ζ [δ cn k3,aX bV 61 cn,wI cE 1 1 bV,wD cB cE 4 1819242306] (Θ cB (ζ [cR k8,aB k9 .i64 13] Ξ) ab)) (ζ [δ cG k2,Lp cN 62 cG 63,δ aN cN] (ζ [δ cO k0,δ cP k1,⟨some cI,.bld [.i .i64 0,.s 0 0,.s 0 0,.ns,.ns] [(0,1,(.t cO)),(1,1,(.c (.s 4 1819242306))),(3,1,(.t cP))],none,0⟩,δ du aN,δ dd k3,yF cV 23 1 0 1 dd,wE dy 23 1 24 du cV,ch de 64 cI dy,aX ez 65 de,eb eZ ez 0,eb fe ez 1,δ k8 eZ,δ k9 fe] Ξ))))))))⟩
def Uo:AC:=bO (ζ [cm aN aH aF] (ξ (Θ aN ab (bJ 0)) (ξ (aq 1 (ζ [aS aO 1 k9 aH,φ aT 1 aO,δ k5 aT] (ζ [δ aV k3,δ aY k5,au aU 1 aY,gy aZ aV aU,δ k3 aZ] (ζ [δ bf k3,jM bk bf .i64 0] (Θ bk (aM [RZ bp 9 16 134789072936214216453580009062074836332,⟨none,.tW (.t bp),none,0⟩]) ab))))) (aM [bK bL aH .i64 1,δ aH bL]))))
def Uq:AC:=bO (ζ [cm bY bX bU] (ξ (Θ bY ab (bJ 2)) (ξ (aq 3 (ζ [aS cj 1 bH bX,φ cn 1 cj,δ k8 cn] (aM [δ bV k6,δ cE k8,wE cB 23 1 24 bV cE,δ k6 cB]))) (aM [bK cG bX .i64 1,δ bX cG]))))
def Ur:AC:=ζ [δ cN k6,δ k2 cN] Ξ
def Us:AC:=ζ [δ bz k3,⟨some bD,.hU (.c (.f 138 [] [])) [(.c .ns),(.t bz)],none,0⟩,δ k6 bD] (ξ (ζ [δ bH k0,au bU 1 bH,aB bX .i64 0] (aq 2 Uq)) Ur)
def f57:AF:=⟨[k0],[.t k2],(ζ [cR k2] (ζ [aB k3 .i64 0] (ξ (ζ [δ k9 k0,au aF 1 k9,aB aH .i64 0] (aq 0 Uo)) Us)))⟩
def f138:AF:=⟨[k0,k1],[.t k4],(ζ [cR k4] (ξ (ζ [δ k5 k1,jM k6 k5 .i64 0] (Θ k6 (aM [RZ k7 9 18 8838634371626034279618351153450530198413667,⟨none,.tW (.t k7),none,0⟩]) ab)) (ξ (ζ [δ k8 k1,δ k9 k0,⟨some aF,.cap none (.t k9),none,0⟩,δ aH k0,au aN 1 aH,kz aO aF aN,kz aT k8 aO,δ k1 aT] (ζ [δ aV k1,fy aY aV .i64 0] (Θ aY (aM [δ aU k0,δ aZ k0,⟨some bf,.cap none (.t aZ),none,0⟩,B5 bk 1 aU bf,δ bp k1,⟨some bL,.app 23 1 24 [.ns] true (.t bk) (.t bp),none,0⟩,δ bz k0,au bD 1 bz,B5 bH 1 bL bD,δ k0 bH]) ab))) (ζ [δ bU k0,δ k4 bU] Ξ))))⟩
def Ut:AC:=bO (ζ [cm aH aF k9] (ξ (Θ aH ab (bJ 0)) (ξ (aq 1 (ζ [aS aN 1 k8 aF,φ aO 1 aN,δ k7 aO] (aM [δ aT k5,δ aV k1,δ aY k7,An aU aV aY,mW aZ 29 .i64 0 1 0 1 aU,oY bf 29 1 8 .i64 0 aT aZ,δ k5 bf]))) (aM [bK bk aF .i64 1,δ aF bk]))))
def Uu:AC:=ζ [δ bp k5,δ k4 bp] Ξ
def f58:AF:=⟨[k0,k1],[.t k4],(ζ [cR k4] (ζ [cR k5] (ξ (ζ [δ k8 k0,au k9 1 k8,aB aF .i64 0] (aq 0 Ut)) Uu)))⟩
def f59:AF:=⟨[k0,k1],[.t k4],(ζ [cA k4] (ζ [δ k5 k0,δ k6 k1,ch k7 139 k5 k6,iH k8 k7 .i64 0,δ k4 k8] Ξ))⟩
def Uv:AC:=bO (ζ [cm k9 k8 k7] (ξ (Θ k9 ab (bJ 0)) (ξ (aq 1 (ζ [δ aF k8,δ k5 aF] (ζ [δ aH k1,δ aN k0,δ aO k5,aS aT 1 aN aO,φ aV 1 aT,An aY aH aV] (Θ aY (ζ [δ aU k5,δ k4 aU] Ξ) ab)))) (aM [bK aZ k8 .i64 1,δ k8 aZ]))))
def Uw:AC:=ζ [aB k4 .i64 (-1)] Ξ
def f139:AF:=⟨[k0,k1],[.t k4],(ζ [aB k4 .i64 0] (ξ (ζ [δ k6 k0,au k7 1 k6,aB k8 .i64 0] (aq 0 Uv)) Uw))⟩
def f60:AF:=⟨[k0],[.t k2],(ζ [cA k2] (ζ [δ k3 k0,au k4 1 k3,cC k5 k4 .i64 0,δ k2 k5] Ξ))⟩
def f61:AF:=⟨[k0],[.cell k2 true 5],(ζ [rQ k2 87 .i64 0 0 0 0 0] (ζ [δ k3 k0,δ k4 k0,au k5 1 k4,dS k6 k5 .i64 1,aS k7 5 k3 k6,bZ k8 5 k7,bm 5 k2 k8] Ξ))⟩
def Ux:AC:=bO (ζ [cm aH aF k9] (ξ (Θ aH ab (bJ 0)) (ξ (aq 1 (ζ [aS aN 1 k8 aF,φ aO 1 aN,δ k7 aO] (aM [δ aT k5,δ aV k1,δ aY k7,An aU aV aY,yF aZ 23 1 0 1 aU,wE bf 23 1 24 aT aZ,δ k5 bf]))) (aM [bK bk aF .i64 1,δ aF bk]))))
def Uy:AC:=ζ [δ bp k5,δ k4 bp] Ξ
def f62:AF:=⟨[k0,k1],[.t k4],(ζ [cR k4] (ζ [cR k5] (ξ (ζ [δ k8 k0,au k9 1 k8,aB aF .i64 0] (aq 0 Ux)) Uy)))⟩
def f63:AF:=⟨[k0],[.t k2],(ζ [cR k2] (ζ [⟨some k3,.bld [.i .i64 0,.s 0 0,.s 0 0,.ns,.ns] [(0,1,(.c (.i .i64 19)))],none,0⟩,δ k4 k0,ch k5 64 k3 k4,δ k2 k5] Ξ))⟩
def Uz:AC:=bO (ζ [cm aN aH aF] (ξ (Θ aN ab (bJ 0)) (ξ (aq 1 (ζ [aS aO 1 k9 aH,φ aT 1 aO,δ k7 aT] (ζ [δ aV k5,δ aY k7,ch aU 140 aV aY,δ k5 aU] (aM [ω aZ 4 k2,φ bf 1 aZ,δ bk k5,au bp 1 bk,dS bL bp .i64 1,mW bz 3 .i64 0 1 0 1 bL,oY bD 3 1 8 .i64 0 bf bz,ω bH 4 k2,bm 1 bH bD])))) (aM [bK bU aH .i64 1,δ aH bU]))))
def f64:AF:=⟨[k0,k1],[.t k4],(ζ [dM k2 87 k0,cR k4] (ζ [cR k5] (ζ [ω k8 4 k2,⟨none,.st 1 (.t k8) (.c .ns),none,0⟩] (ξ (ζ [δ k9 k1,au aF 1 k9,aB aH .i64 0] (aq 0 Uz)) (ζ [ω bX 3 k2,φ bY 1 bX,aX cj 124 bY,ω cn 3 k2,bm 1 cn cj] (ζ [δ bV k5,bZ cE 5 k2,B2 cB 87 .i64 0 0 0 0 0 1 0 5 cE,B1 cG 87 5 88 .i64 0 0 0 0 0 bV cB,δ k4 cG] Ξ))))))⟩
def UA:AC:=bO (ζ [cm bL bp bk] (ξ (Θ bL ab (bJ 2)) (ξ (aq 3 (ζ [δ bz bp,δ k8 bz] (aM [ω bD 4 k7,φ bH 1 bD,δ bU k8,aS bX 1 bH bU,φ bY 1 bX,δ cj k5,gy cn bY cj,aS bV 1 bH bU,bm 1 bV cn]))) (aM [bK cE bp .i64 1,δ bp cE]))))
def UB:AC:=bO (ζ [cm aV aT aO] (ξ (Θ aV ab (bJ 0)) (ξ (aq 1 (ζ [aS aY 5 aN aT,bZ aU 5 aY,rQ k7 87 .i64 0 0 0 0 0,bm 5 k7 aU] (ξ (ζ [ω aZ 4 k7,φ bf 1 aZ,au bk 1 bf,aB bp .i64 0] (aq 2 UA)) (aM [δ cB k0,bZ cG 5 k7,B2 cN 87 .i64 0 0 0 0 0 1 0 5 cG,B1 cO 87 5 88 .i64 0 0 0 0 0 cB cN,δ k0 cO])))) (aM [bK cP aT .i64 1,δ aT cP]))))
def f140:AF:=⟨[k0,k1],[.t k4],(ζ [cR k4] (ζ [δ k9 k0,au aF 1 k9,δ k5 aF] (ξ (ζ [δ aH k1,aX aN 119 aH,au aO 1 aN,aB aT .i64 0] (aq 0 UB)) (ζ [δ cI k0,δ k4 cI] Ξ))))⟩
def UC:AC:=bO (ζ [cm aT aO aN] (ξ (Θ aT ab (bJ 0)) (ξ (aq 1 (ζ [δ aV aO,δ k4 aV] (.regd [δ aY k3,δ aU k4,δ aZ k3,δ bf k4,δ bk k3,δ bp k4,μ 48 (aS bL 5 bk bp),μ 112 (ω bz 4 bL),μ 240 (φ bD 1 bz),μ 496 (aX bH 196 bD),δ bU k3,δ bX k4,μ 3072 (aS bY 5 bU bX),μ 7168 (ω cj 3 bY),μ 15360 (φ cn 1 cj),μ 32752 (aX bV 124 cn),μ 65523 (aS cE 5 aY aU),μ 131059 (ω cB 4 cE),μ 262131 (bm 1 cB bH),μ 524287 (aS cG 5 aZ bf),μ 1048575 (ω cN 3 cG),μ 2097151 (bm 1 cN bV)]))) (aM [bK cO aO .i64 1,δ aO cO]))))
def f119:AF:=⟨[k0],[.t k2],(ζ [cR k2] (ζ [δ k5 k0,au k6 1 k5,⟨some k7,.msl 87 5 88 [.i .i64 0,.s 0 0,.s 0 0,.ns,.ns] (.t k6) (.t k6),none,0⟩,δ k3 k7] (ζ [δ k8 k3,δ k9 k0,⟨some aF,.zD 5 (.t k8) (.t k9),none,0⟩] (ξ (ζ [δ aH k3,au aN 1 aH,aB aO .i64 0] (aq 0 UC)) (ζ [δ cP k3,δ k2 cP] Ξ)))))⟩
def UD:AC:=ξ (ζ [δ k3 k0,Lu k4 k3] (Θ k4 (ζ [cR k2] Ξ) ab)) (ζ [⟨some k5,.bsl 3 [] 0 [],none,0⟩,δ k6 k0,oY k7 3 1 8 .i64 0 k5 k6,δ k2 k7] Ξ)
def f196:AF:=⟨[k0],[.t k2],(ζ [cR k2] UD)⟩
def UE:AC:=ξ (ζ [δ k3 k0,Lu k4 k3] (Θ k4 (ζ [cR k2] Ξ) ab)) (ζ [⟨some k5,.bsl 64 [] 0 [],none,0⟩,δ k6 k0,⟨some k7,.app 64 2 32 [.s 0 0,.s 0 0] false (.t k5) (.t k6),none,0⟩,δ k2 k7] Ξ)
def f124:AF:=⟨[k0],[.t k2],(ζ [cR k2] UE)⟩
def f65:AF:=⟨[k0],[.t k2,.t k3],(ζ [cR k2,aB k3 .i64 0] (ξ (ζ [δ k5 k0,aX k6 36 k5,δ k4 k6] (ζ [δ k7 k4,iI k8 k7 .i64 0] (Θ k8 (ζ [δ k9 k4,cR k2,δ k3 k9] Ξ) ab))) (ζ [δ aF k0,δ k2 aF,aB k3 .i64 0] Ξ)))⟩
def UF:AC:=bO (ξ (ζ [δ cE aN,δ cB k2,δ cG aH,aS cN 1 cB cG,φ cO 1 cN,au cP 1 cO,cm cI cE cP] (Θ cI ab (bJ 2))) (ξ (aq 3 (ζ [δ cV k2,δ dy aH,aS de 1 cV dy,φ ez 1 de,δ eZ aN,aS fe 1 ez eZ,φ fa 1 fe,aX fI 39 fa,δ aO fI] (ζ [δ fW aO,iI fJ fW .i64 0] (Θ fJ (ζ [δ fR aO,cR k8,δ k9 fR] Ξ) ab)))) (aM [δ du aN,bK dd du .i64 1,δ aN dd])))
def UG:AC:=aM [δ cn aH,bK bV cn .i64 1,δ aH bV]
def UH:AC:=ξ (ζ [δ bU aH,δ bX k2,au bY 1 bX,cm cj bU bY] (Θ cj ab (bJ 0))) (ξ (aq 1 (ζ [aB aN .i64 0] (aq 2 UF))) UG)
def UI:AC:=bO UH
def UJ:AC:=bO (ξ (ζ [δ fD aV,δ fS k2,au fK 1 fS,cm iM fD fK] (Θ iM ab (bJ 4))) (ξ (aq 5 (ξ (ζ [δ jw k2,δ jx aV,aS jy 1 jw jx,φ im 1 jy,au jz 1 im,cC jA jz .i64 0] (Θ jA (ζ [cR k8,aB k9 .i64 2] Ξ) ab)) (aM [δ jB aT,⟨some jC,.bld [.i .i64 0,.s 0 0,.s 0 0,.ns,.ns] [(0,1,(.c (.i .i64 19)))],none,0⟩,δ jP k2,δ kj aV,aS fE 1 jP kj,φ kK 1 fE,ch lV 67 jC kK,yF lW 23 1 0 1 lV,wE lf 23 1 24 jB lW,δ aT lf]))) (aM [δ jc aV,bK je jc .i64 1,δ aV je])))
def UK:AC:=ξ (ζ [δ oq k3,aX ot 68 oq,wI ou 1 1 ot,wD ov ou 4 1819242306] (Θ ov (ζ [cR k8,aB k9 .i64 13] Ξ) ab)) (ζ [δ ox k0,δ lX k1,⟨some nz,.bld [.i .i64 0,.s 0 0,.s 0 0,.ns,.ns] [(0,1,(.t ox)),(1,1,(.c (.s 4 1819242306))),(3,1,(.t lX))],none,0⟩,δ oU aT,δ qD k3,yF sk 23 1 0 1 qD,wE sn 23 1 24 oU sk,ch lh 67 nz sn,δ aY lh] (ξ (ζ [δ oV aY,aX so 39 oV,δ aU so] (ζ [δ sr aU,iI sx sr .i64 0] (Θ sx (ζ [δ sy aU,cR k8,δ k9 sy] Ξ) ab))) (ζ [δ ri aY,δ k8 ri,aB k9 .i64 0] Ξ)))
def UL:AC:=ζ [cR aT] (ξ (ζ [aB aV .i64 0] (aq 4 UJ)) UK)
def f20:AF:=⟨[k0,k1,k2,k3],[.t k8,.t k9],(ζ [cR k8,aB k9 .i64 0] (ξ (ζ [δ aZ k0,aX bf 66 aZ,eT bk bf] (Θ bk (ζ [cR k8,aB k9 .i64 11] Ξ) ab)) (ξ (ζ [δ bp k3,aX bL 39 bp,δ aF bL] (ζ [δ bz aF,iI bD bz .i64 0] (Θ bD (ζ [δ bH aF,cR k8,δ k9 bH] Ξ) ab))) (ξ (ζ [aB aH .i64 0] (aq 0 UI)) UL))))⟩
def UM:AC:=bO (ξ (ζ [δ eZ aH,ω fe 4 k9,φ fa 1 fe,au fI 1 fa,cm fW eZ fI] (Θ fW ab (bJ 4))) (ξ (aq 5 (aM [δ fD aF,ω fS 4 k9,φ fK 1 fS,δ iM aH,aS jc 1 fK iM,φ je 1 jc,δ jw k7,gy jx je jw,mW jy 3 .i64 0 1 0 1 jx,oY im 3 1 8 .i64 0 fD jy,δ aF im])) (aM [δ fJ aH,bK fR fJ .i64 1,δ aH fR])))
def UN:AC:=bO (ξ (ζ [δ bH k8,δ bU k1,δ bX k6,aS bY 1 bU bX,φ cj 1 bY,au cn 1 cj,cm bV bH cn] (Θ bV ab (bJ 2))) (ξ (aq 3 (ζ [δ cG k1,δ cN k6,aS cO 1 cG cN,φ cP 1 cO,δ cI k8,aS du 5 cP cI,bZ dd 5 du,rQ k9 87 .i64 0 0 0 0 0,bm 5 k9 dd] (ζ [ω cV 3 k9,φ dy 1 cV,H8 de 64 2 32 0 0 0 0 dy,ω ez 3 k9,bm 1 ez de] (ζ [cR aF] (ξ (ζ [aB aH .i64 0] (aq 4 UM)) (ζ [δ jz aF,ω jA 4 k9,bm 1 jA jz] (aM [δ jB k5,bZ jC 5 k9,B2 jP 87 .i64 0 0 0 0 0 1 0 5 jC,B1 kj 87 5 88 .i64 0 0 0 0 0 jB jP,δ k5 kj]))))))) (aM [δ cE k8,bK cB cE .i64 1,δ k8 cB])))
def UO:AC:=bO (ξ (ζ [δ aU k6,δ aZ k1,au bf 1 aZ,cm bk aU bf] (Θ bk ab (bJ 0))) (ξ (aq 1 (ζ [δ bz k5,au bD 1 bz,δ k7 bD] (ξ (ζ [aB k8 .i64 0] (aq 2 UN)) (aM [ω fE 4 k2,φ kK 1 fE,δ lV k5,au lW 1 lV,dS lf lW .i64 1,mW oq 3 .i64 0 1 0 1 lf,oY ot 3 1 8 .i64 0 kK oq,ω ou 4 k2,bm 1 ou ot])))) (aM [δ bp k6,bK bL bp .i64 1,δ k6 bL])))
def f67:AF:=⟨[k0,k1],[.t k4],(ζ [dM k2 87 k0,cR k4] (ζ [cR k5] (ζ [ω aN 4 k2,⟨none,.st 1 (.t aN) (.c .ns),none,0⟩] (ζ [ω aO 3 k2,φ aT 1 aO,H8 aV 64 2 32 0 0 0 0 aT,ω aY 3 k2,bm 1 aY aV] (ξ (ζ [aB k6 .i64 0] (aq 0 UO)) (ζ [δ ov k5,bZ ox 5 k2,B2 lX 87 .i64 0 0 0 0 0 1 0 5 ox,B1 nz 87 5 88 .i64 0 0 0 0 0 ov lX,δ k4 nz] Ξ))))))⟩
def f15:AF:=⟨[k0,k1,k2,k3],[.t k8],(ζ [cA k8] (ζ [δ k9 k0,δ aF k2,ch aH 55 k9 aF,δ aN aH,ay aN (δ aO k1),ay aN (δ aT k3),ay aN (uY aV aO aT),eC aY aN aV,δ k8 aY] Ξ))⟩
def UP:AC:=bO (ξ (ζ [δ aH k5,δ aN k0,au aO 1 aN,cm aT aH aO] (Θ aT ab (bJ 0))) (ξ (aq 1 (ξ (.regd [δ aU k0,δ aZ k5,μ 3 (aS bf 5 aU aZ),μ 7 (ω bk 0 bf),μ 15 (φ bp 1 bk),δ bL k1,δ bz k5,μ 96 (aS bD 5 bL bz),μ 224 (ω bH 0 bD),μ 480 (φ bU 1 bH),μ 1023 (jZ bX bp bU),μ 2047 (δ bY bX),μ 4095 (aa bY (δ cj k0)),μ 4095 (aa bY (δ cn k5)),μ 16383 (aa bY (aS bV 5 cj cn)),μ 32767 (aa bY (ω cE 1 bV)),μ 65535 (aa bY (φ cB 1 cE)),μ 4095 (aa bY (δ cG k1)),μ 4095 (aa bY (δ cN k5)),μ 397311 (aa bY (aS cO 5 cG cN)),μ 921599 (aa bY (ω cP 1 cO)),μ 1970175 (aa bY (φ cI 1 cP)),μ 4194303 (aa bY (B8 du cB cI)),μ 8388607 (dI dd bY du),μ 16777215 (δ cV dd),μ 33554431 (aa cV (δ dy k0)),μ 33554431 (aa cV (δ de k5)),μ 134217727 (aa cV (aS ez 5 dy de)),μ 268435455 (aa cV (ω eZ 2 ez)),μ 536870911 (aa cV (φ fe 1 eZ)),μ 33554431 (aa cV (δ fa k1)),μ 33554431 (aa cV (δ fI k5)),μ 3254779903 (aa cV (aS fW 5 fa fI)),μ 7549747199 (aa cV (ω fJ 2 fW)),μ 16139681791 (aa cV (φ fR 1 fJ)),μ 34359738367 (aa cV (B8 fD fe fR)),μ 68719476735 (dI fS cV fD),μ 137438953471 (δ fK fS),μ 274877906943 (aa fK (δ iM k0)),μ 274877906943 (aa fK (δ jc k5)),μ 1099511627775 (aa fK (aS je 5 iM jc)),μ 2199023255551 (aa fK (ω jw 3 je)),μ 4398046511103 (aa fK (φ jx 1 jw)),μ 274877906943 (aa fK (δ jy k1)),μ 274877906943 (aa fK (δ im k5)),μ 26663156973567 (aa fK (aS jz 5 jy im)),μ 61847529062399 (aa fK (ω jA 3 jz)),μ 132216273240063 (aa fK (φ jB 1 jA)),μ 281474976710655 (aa fK (ch jC 11 jx jB)),μ 562949953421311 (aa fK (eT jP jC)),μ 1125899906842623 (dI kj fK jP),μ 2251799813685247 (δ fE kj),μ 4503599627370495 (aa fE (δ kK k0)),μ 4503599627370495 (aa fE (δ lV k5)),μ 18014398509481983 (aa fE (aS lW 5 kK lV)),μ 36028797018963967 (aa fE (ω lf 4 lW)),μ 72057594037927935 (aa fE (φ oq 1 lf)),μ 4503599627370495 (aa fE (δ ot k1)),μ 4503599627370495 (aa fE (δ ou k5)),μ 436849163854938111 (aa fE (aS ov 5 ot ou)),μ 1013309916158361599 (aa fE (ω ox 4 ov)),μ 2166231420765208575 (aa fE (φ lX 1 ox)),μ 4611686018427387903 (aa fE (ch nz 137 oq lX)),μ 9223372036854775807 (aa fE (eT oU nz)),μ 18446744073709551615 (dI qD fE oU)]) (Θ qD (ζ [cA k4] Ξ) ab))) (aM [δ aV k5,bK aY aV .i64 1,δ k5 aY])))
def UQ:AC:=ζ [kR k4] Ξ
def f55:AF:=⟨[k0,k1],[.t k4],(ζ [cA k4] (ξ (ζ [δ k6 k0,au k7 1 k6,δ k8 k1,au k9 1 k8,jZ aF k7 k9] (Θ aF (ζ [cA k4] Ξ) ab)) (ξ (ζ [aB k5 .i64 0] (aq 0 UP)) UQ)))⟩
def UR:AC:=bO (ξ (ζ [δ aH k5,δ aN k0,au aO 1 aN,cm aT aH aO] (Θ aT ab (bJ 0))) (ξ (aq 1 (ξ (.regd [δ aU k0,δ aZ k5,μ 3 (aS bf 2 aU aZ),μ 7 (bZ bk 2 bf),δ bp k1,δ bL k5,μ 48 (aS bz 2 bp bL),μ 112 (bZ bD 2 bz),⟨some bH,.bin .neq (.agg [(0,.str),(1,.str)]) (.t bk) (.t bD),none,255⟩]) (Θ bH (ζ [cA k4] Ξ) ab))) (aM [δ aV k5,bK aY aV .i64 1,δ k5 aY])))
def US:AC:=ζ [kR k4] Ξ
def f11:AF:=⟨[k0,k1],[.t k4],(ζ [cA k4] (ξ (ζ [δ k6 k0,au k7 1 k6,δ k8 k1,au k9 1 k8,jZ aF k7 k9] (Θ aF (ζ [cA k4] Ξ) ab)) (ξ (ζ [aB k5 .i64 0] (aq 0 UR)) US)))⟩
def UT:AC:=bO (ξ (ζ [δ aH k5,δ aN k0,au aO 1 aN,cm aT aH aO] (Θ aT ab (bJ 0))) (ξ (aq 1 (ξ (.regd [δ aU k0,δ aZ k5,μ 3 (aS bf 1 aU aZ),μ 7 (φ bk 1 bf),δ bp k1,δ bL k5,μ 48 (aS bz 1 bp bL),μ 112 (φ bD 1 bz),μ 255 (jZ bH bk bD)]) (Θ bH (ζ [cA k4] Ξ) ab))) (aM [δ aV k5,bK aY aV .i64 1,δ k5 aY])))
def UU:AC:=ζ [kR k4] Ξ
def f137:AF:=⟨[k0,k1],[.t k4],(ζ [cA k4] (ξ (ζ [δ k6 k0,au k7 1 k6,δ k8 k1,au k9 1 k8,jZ aF k7 k9] (Θ aF (ζ [cA k4] Ξ) ab)) (ξ (ζ [aB k5 .i64 0] (aq 0 UT)) UU)))⟩
def UW:AC:=ζ [δ bk k6,iI bp bk .i64 0] (Θ bp (ζ [δ bL k6,cR k4,δ k5 bL] Ξ) ab)
def UX:AC:=ζ [δ bz k0,δ bD k1,ch bH 69 bz bD,δ k4 bH,aB k5 .i64 0] Ξ
def f21:AF:=⟨[k0,k1],[.t k4,.t k5],(ζ [cR k4,aB k5 .i64 0] (ξ (ζ [δ k7 k0,aX k8 36 k7,δ k9 k1,jM aF k9 .i64 0,δ aH aF,aa aH (δ aN k1),aa aH (δ aO k0),aa aH (au aT 1 aO),aa aH (B7 aV aN aT),dI aY aH aV,gT aU 42 aY .i64 8,wC aZ 29 .i64 0 .i64 0 2 0 1 k8 1 1 aU,aX bf 41 aZ,δ k6 bf] UW) UX))⟩
def UY:AC:=bO (ζ [cm cn cj bY] (ξ (Θ cn ab (bJ 2)) (ξ (aq 3 (ζ [δ bV cj,δ k8 bV] (aM [δ cE k6,δ cB k7,aS cG 5 cE cB,ω cN 4 cG,φ cO 1 cN,δ cP k8,aS cI 1 cO cP,φ du 1 cI,δ dd k5,kz cV du dd,aS dy 1 cO cP,bm 1 dy cV]))) (aM [bK de cj .i64 1,δ cj de]))))
def UZ:AC:=bO (ζ [cm bp bk bf] (ξ (Θ bp ab (bJ 0)) (ξ (aq 1 (ζ [δ bL bk,δ k7 bL] (ζ [δ bz k6,δ bD k7,aS bH 5 bz bD,ω bU 4 bH,φ bX 1 bU,au bY 1 bX,aB cj .i64 0] (aq 2 UY)))) (aM [bK ez bk .i64 1,δ bk ez]))))
def f69:AF:=⟨[k0,k1],[.t k4],(ζ [cR k4] (ζ [δ k9 k0,δ aF k1,ch aH 102 k9 aF,δ k5 aH] (ζ [δ aN k0,δ aO k5,δ aT k1,bK aV aT .i64 1,⟨some aY,.sli (.sl 5) (.t aN) (some (.t aO)) (some (.t aV)) none,none,0⟩,aX aU 119 aY,δ k6 aU] (ξ (ζ [δ aZ k6,au bf 1 aZ,aB bk .i64 0] (aq 0 UZ)) (ζ [δ eZ k6,δ k4 eZ] Ξ)))))⟩
def U0:AC:=ζ [δ bk k6,iI bp bk .i64 0] (Θ bp (ζ [δ bL k6,cR k4,δ k5 bL] Ξ) ab)
def U1:AC:=ζ [δ bz k0,δ bD k1,ch bH 70 bz bD,δ k4 bH,aB k5 .i64 0] Ξ
def f22:AF:=⟨[k0,k1],[.t k4,.t k5],(ζ [cR k4,aB k5 .i64 0] (ξ (ζ [δ k7 k0,aX k8 39 k7,δ k9 k1,jM aF k9 .i64 0,δ aH aF,aa aH (δ aN k1),aa aH (δ aO k0),aa aH (au aT 1 aO),aa aH (B7 aV aN aT),dI aY aH aV,gT aU 49 aY .i64 8,wC aZ 3 .i64 0 .i64 0 2 0 1 k8 1 1 aU,aX bf 48 aZ,δ k6 bf] U0) U1))⟩
structure Cd(C:Nat->Option bP):Prop where
 f6:C 6=some (.go f6)
 f34:C 34=some (.go f34)
 f35:C 35=some (.go f35)
 f9:C 9=some (.go f9)
 f19:C 19=some (.go f19)
 f38:C 38=some (.go f38)
 f32:C 32=some (.go f32)
 f36:C 36=some (.go f36)
 f42:C 42=some (.go f42)
 f41:C 41=some (.go f41)
 f82:C 82=some (.go f82)
 f165:C 165=some (.go f165)
 f97:C 97=some (.go f97)
 f186:C 186=some (.go f186)
 f245:C 245=some (.go f245)
 f102:C 102=some (.go f102)
 f98:C 98=some (.go f98)
 f56:C 56=some (.go f56)
 f99:C 99=some (.go f99)
 f187:C 187=some (.go f187)
 f246:C 246=some (.go f246)
 f294:C 294=some (.go f294)
 f325:C 325=some (.go f325)
 f247:C 247=some (.go f247)
 f248:C 248=some (.go f248)
 f188:C 188=some (.go f188)
 f221:C 221=some (.go f221)
 f277:C 277=some (.go f277)
 f312:C 312=some (.go f312)
 f209:C 209=some (.go f209)
 f306:C 306=some (.go f306)
 f339:C 339=some (.go f339)
 f355:C 355=some (.go f355)
 f249:C 249=some (.go f249)
 f295:C 295=some (.go f295)
 f250:C 250=some (.go f250)
 f251:C 251=some (.go f251)
 f296:C 296=some (.go f296)
 f326:C 326=some (.go f326)
 f298:C 298=some (.go f298)
 f327:C 327=some (.go f327)
 f328:C 328=some (.go f328)
 f297:C 297=some (.go f297)
 f252:C 252=some (.go f252)
 f253:C 253=some (.go f253)
 f299:C 299=some (.go f299)
 f319:C 319=some (.go f319)
 f347:C 347=some (.go f347)
 f330:C 330=some (.go f330)
 f349:C 349=some (.go f349)
 f329:C 329=some (.go f329)
 f321:C 321=some (.go f321)
 f331:C 331=some (.go f331)
 f320:C 320=some (.go f320)
 f254:C 254=some (.go f254)
 f44:C 44=some (.go f44)
 f118:C 118=some (.go f118)
 f195:C 195=some (.go f195)
 f261:C 261=some (.go f261)
 f145:C 145=some (.go f145)
 f305:C 305=some (.go f305)
 f262:C 262=some (.go f262)
 f263:C 263=some (.go f263)
 f264:C 264=some (.go f264)
 f100:C 100=some (.go f100)
 f106:C 106=some (.go f106)
 f191:C 191=some (.go f191)
 f181:C 181=some (.go f181)
 f241:C 241=some (.go f241)
 f101:C 101=some (.go f101)
 f189:C 189=some (.go f189)
 f103:C 103=some (.go f103)
 f86:C 86=some (.go f86)
 f173:C 173=some (.go f173)
 f239:C 239=some (.go f239)
 f174:C 174=some (.go f174)
 f39:C 39=some (.go f39)
 f49:C 49=some (.go f49)
 f48:C 48=some (.go f48)
 f107:C 107=some (.go f107)
 f109:C 109=some (.go f109)
 f108:C 108=some (.go f108)
 f110:C 110=some (.go f110)
 f66:C 66=some (.go f66)
 f111:C 111=some (.go f111)
 f192:C 192=some (.go f192)
 f193:C 193=some (.go f193)
 f256:C 256=some (.go f256)
 f302:C 302=some (.go f302)
 f194:C 194=some (.go f194)
 f257:C 257=some (.go f257)
 f260:C 260=some (.go f260)
 f304:C 304=some (.go f304)
 f259:C 259=some (.go f259)
 f303:C 303=some (.go f303)
 f332:C 332=some (.go f332)
 f350:C 350=some (.go f350)
 f351:C 351=some (.go f351)
 f362:C 362=some (.go f362)
 f352:C 352=some (.go f352)
 f333:C 333=some (.go f333)
 f335:C 335=some (.go f335)
 f334:C 334=some (.go f334)
 f353:C 353=some (.go f353)
 f336:C 336=some (.go f336)
 f354:C 354=some (.go f354)
 f258:C 258=some (.go f258)
 f50:C 50=some (.go f50)
 f130:C 130=some (.go f130)
 f112:C 112=some (.go f112)
 f117:C 117=some (.go f117)
 f113:C 113=some (.go f113)
 f114:C 114=some (.go f114)
 f68:C 68=some (.go f68)
 f136:C 136=some (.go f136)
 f70:C 70=some (.go f70)
 f131:C 131=some (.go f131)
 f171:C 171=some (.go f171)
 f229:C 229=some (.go f229)
 f230:C 230=some (.go f230)
 f279:C 279=some (.go f279)
 f280:C 280=some (.go f280)
 f4:C 4=some (.go f4)
 f16:C 16=some (.go f16)
 f17:C 17=some (.go f17)
 f18:C 18=some (.go f18)
 f57:C 57=some (.go f57)
 f138:C 138=some (.go f138)
 f58:C 58=some (.go f58)
 f59:C 59=some (.go f59)
 f139:C 139=some (.go f139)
 f60:C 60=some (.go f60)
 f61:C 61=some (.go f61)
 f62:C 62=some (.go f62)
 f63:C 63=some (.go f63)
 f64:C 64=some (.go f64)
 f140:C 140=some (.go f140)
 f119:C 119=some (.go f119)
 f196:C 196=some (.go f196)
 f124:C 124=some (.go f124)
 f65:C 65=some (.go f65)
 f20:C 20=some (.go f20)
 f67:C 67=some (.go f67)
 f15:C 15=some (.go f15)
 f55:C 55=some (.go f55)
 f11:C 11=some (.go f11)
 f137:C 137=some (.go f137)
 f21:C 21=some (.go f21)
 f69:C 69=some (.go f69)
 f22:C 22=some (.go f22)
 f267:C 267=some (.pm .vQ)
end Go.Ev.X
end
namespace Go.Ev.X
open Go Go.Ev
section
theorem adT:∀{l m:Nat},m<256 ^ l->bR (cH l m)=m:=by
 intro l
 induction l with
 | zero=>intro m h;simp at h;subst h;rfl
 | succ l ih=>
  intro m h;have h2:m / 256<256 ^ l:=by rw[gW]at h;omega
  show(UInt8.ofNat (m % 256)).toNat+256*bR (cH l (m / 256))=m;rw[ih h2];have:(UInt8.ofNat (m % 256)).toNat=m % 256:=by simp
  omega
theorem adU{m:Nat}(sA:sL m=true)(h:128<=m):∀c∈cH (pJ m) (sM m),128<=c.toNat:=by
 simp only[sL,gf,jV,qm,bG,bT]at sA;have u:∀{a:Nat},128<=a % 256->128<=(UInt8.ofNat a).toNat:=λ{a} h=>by simpa using h
 unfold pJ sM;simp only[gf];have h1:¬ m<128:=by omega
 simp only[h1,decide_false,cond_false];by_cases h2:m<2048
 ·obtain⟨e1,e2⟩:=dg (192+m / 64) (128+m % 64) (by omega);simp only[h2,decide_true,cond_true,cH,e1,e2];intro c hc;simp only[fY,xA,or_false]at hc;rcases hc with rfl | rfl<;>exact u (by omega)
 ·simp only[h2,decide_false,cond_false];by_cases h3:m<65536
  ·obtain⟨e1,e2⟩:=dg (224+m / 4096) (128+m / 64 % 64+256*(128+m % 64)) (by omega);obtain⟨e3,e4⟩:=dg (128+m / 64 % 64) (128+m % 64) (by omega);simp only[h3,decide_true,cond_true,cH,e1,e2,e3,e4];intro c hc;simp only[fY,xA,or_false]at hc;rcases hc with rfl | rfl | rfl<;>exact u (by omega)
  ·obtain⟨e1,e2⟩:=dg (240+m / 262144) (128+m / 4096 % 64+256*(128+m / 64 % 64+256*(128+m % 64))) (by omega);obtain⟨e3,e4⟩:=dg (128+m / 4096 % 64) (128+m / 64 % 64+256*(128+m % 64)) (by omega);obtain⟨e5,e6⟩:=dg (128+m / 64 % 64) (128+m % 64) (by omega);simp only[h3,decide_false,cond_false,cH,e1,e2,e3,e4,e5,e6];intro c hc;simp only[fY,xA,or_false]at hc;rcases hc with rfl | rfl | rfl | rfl<;>exact u (by omega)
theorem adV(m:Nat):1<=pJ m/\pJ m<=4:=by unfold pJ;simp only[iW];split<;>(try split)<;>(try split)<;>omega
section
variable {C:Nat->Option bP}{E:Env}{h:Hf}{n:K}{q:Env->Hf->K->Prop}{l:List AO}{ah:Nat}{k:V->Hf->K->Prop}
theorem adW{x:aJ}{ik:IntKind}{m:Nat}(hx:ge E x=some (.i ik (m:Nat)))(sA:sL m=true)(hk:∀bs:S,1<=bs.length->bs.length<=4->(128<=m->∀c∈bs,128<=c.toNat)->k (X.st bs) h n):SO C (.cv .zB x) E h n k:=by
 have hl:=adV m;refine gn (v:=X.st (cH (pJ m) (sM m))) (λ_ _ _ _=>rfl) (λT H hT hH=>?_) (hk _ (by rw[rG];omega) (by rw[rG];omega) (adU sA));have e:rb H n .zB (.i ik (.ofNat m))=some (.s (pJ m) (sM m),H,n):=by simp only[rb,sA,cond_true]
 have e2:X.st (cH (pJ m) (sM m))=.s (pJ m) (sM m):=by unfold X.st;rw[rG,adT (KF sA).2]
 rw[e2];simp only[simple,hT.ge hx];exact e
theorem adX{d:K}{x:aJ}{ik:IntKind}{m:Nat}(hx:ge E x=some (.i ik (m:Nat)))(sA:sL m=true)(hk:∀bs:S,1<=bs.length->bs.length<=4->(128<=m->∀c∈bs,128<=c.toNat)->WO C l ((d,X.st bs)::E) h n q):WO C (⟨some d,.cv .zB x,none,ah⟩::l) E h n q:=cX (adW hx sA hk)
end
def ze(c:Nat):S->Nat->Option Nat
 | [],_=>none
 | x::l,i=>if x.toNat=c then some i else ze c l (i+1)
def bI(c:Nat)(s:S):Int:=match ze c s 0 with | some i=>(i:Nat) | none=>-1
theorem adY(c:Nat):∀(s:S) (i:Nat),BC c s.length (bR s) i=ze c s i:=by
 intro s
 induction s with
 | nil=>intro i;rfl
 | cons x l ih=>
  intro i;have hx:=x.toNat_lt;have e1:Nat.mod (bR (x::l)) 256=x.toNat:=by show(x.toNat+256*bR l) % 256=_;omega
  have e2:Nat.div (bR (x::l)) 256=bR l:=by show(x.toNat+256*bR l) / 256=_;omega
  show(bif Nat.beq (Nat.mod (bR (x::l)) 256) c then some i else BC c l.length (Nat.div (bR (x::l)) 256) (i+1))=_
  rw[e1,e2,ih,dD,ze];by_cases h:x.toNat=c<;>simp[h]
theorem LL{c:Nat}:∀{s:S} {i j:Nat},ze c s i=some j->i<=j/\∃h:j - i<s.length,s[j - i].toNat=c/\∀k (hk:k<s.length),k<j - i->s[k].toNat≠c:=by
 intro s
 induction s with
 | nil=>intro i j h;cases h
 | cons x l ih=>
  intro i j h;rw[ze]at h;split at h
  ·rename_i hx;injection h with h;subst h;refine⟨Γ _,by simp,?_,λk hk h=>by omega⟩;simpa using hx
  ·rename_i hx;obtain⟨h1,h2,h3,h4⟩:=ih h;have e:j - i=(j - (i+1))+1:=by omega
   refine⟨by omega,by rw[e];simp only[fG];omega,?_,λk hk h=>?_⟩
   ·simp only[e,xw];exact h3
   ·cases k with
    | zero=>simpa using hx
    | succ k=>simp only[xw];exact h4 k (by simpa using hk) (by omega)
theorem adZ{c:Nat}:∀{s:S} {i:Nat},ze c s i=none->∀x∈s,x.toNat≠c:=by
 intro s
 induction s with
 | nil=>intro i h x hx;cases hx
 | cons y l ih=>
  intro i h x hx;rw[ze]at h;split at h
  ·cases h
  ·rename_i hy;rcases fY.1 hx with rfl | hx
   ·exact hy
   ·exact ih h x hx
theorem LM{c:Nat}{s:S}:0<=bI c s↔∃x∈s,x.toNat=c:=by
 unfold bI;cases h:ze c s 0 with
 | none=>simp only;refine⟨λh=>by omega,λ⟨x,hx,e⟩=>absurd e (adZ h x hx)⟩
 | some j=>
  obtain⟨_,h2,h3,_⟩:=LL h;exact⟨λ_=>⟨_,dU h2,h3⟩,λ_=>by simp only;omega⟩
theorem ad0{c:Nat}{s:S}(h:0<=bI c s):∃j:Nat,bI c s=(j:Nat)/\∃hj:j<s.length,s[j].toNat=c/\∀k (hk:k<s.length),k<j->s[k].toNat≠c:=by
 unfold bI at h ⊢;cases hb:ze c s 0 with
 | none=>rw[hb]at h;simp only at h;omega
 | some j=>obtain⟨_,h2⟩:=LL hb;exact⟨j,rfl,h2⟩
theorem ad1{c:Nat}{s:S}(h:¬ ∃x∈s,x.toNat=c):bI c s = -1:=by
 unfold bI;cases hb:ze c s 0 with
 | none=>rfl
 | some j=>obtain⟨_,h2,h3,_⟩:=LL hb;exact absurd ⟨_,dU h2,h3⟩ h
end
end Go.Ev.X
